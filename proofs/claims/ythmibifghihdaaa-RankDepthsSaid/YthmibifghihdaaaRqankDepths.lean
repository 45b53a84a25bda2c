import Derived.Test.YthmibifghihdaaaM5
set_option linter.all false
section
namespace Go.AE
open Go.RowKit
section ops
variable {C : Ctx} {T : AT} {H : AH} {nx : Nat} {d : Option Tmp} {ty : TypeId} {pos : String} {after : Array Edge} {g : Option (Nat × Bool)}
end ops
theorem le_ros {l l' : List AV} {n : Nat} {c : Option Nat} (h : leL l l') (hd : dataL l') : AV.le (.ros l n c) (.ros l' n none) := fun ρ Φ w x e => by
  simp only [Con] at e ⊢
  rcases e with ⟨h1, h2, _⟩ | ⟨r, base, xs, k, h1, h2, h3, _, h5, h6, _⟩
  · exact .inl ⟨h1, h2, fun m hm => by cases hm⟩
  · exact .inr ⟨r, base, xs, k, h1, h2, h3, fun m hm => (by cases hm), h _ _ _ _ h5, h6, hd⟩
end Go.AE
end

section
namespace Go.AE
open Go.RowKit
section
variable {C : Ctx} {T : AT} {H : AH} {nx : Nat} {d : Option Tmp} {ty : TypeId} {pos : String} {after : Array Edge} {g : Option (Nat × Bool)}
theorem U_eqlS {t t' : TypeId} {x y : Operand} {k : IntKind} {a : Int} (hx : ev T x = some (.int k a)) (hy : ev T y = some (.int k a)) : OpU C ⟨d, .binOp .eql t x y t', ty, pos, after, g⟩ T H nx (.bool true) [] nx := by
  have h := U_eql (C := C) (t := t) (t' := t') (d := d) (ty := ty) (pos := pos) (after := after) (g := g) (H := H) (nx := nx) hx hy
  rwa [decide_eq_true rfl] at h
theorem len0_ros {cs : List AV} {n : Nat} {c : Option Nat} (hn : n = 0) : ∀ (ρ : Env) Φ w y, Con ρ Φ w (.ros cs n c) y → ∃ a k, y = .slice a 0 k := fun ρ Φ w y h => by
  obtain ⟨a, k, h1, _⟩ := lenk_ros ρ Φ w y h; subst hn; exact ⟨a, k, h1⟩
end
end Go.AE
end

section
namespace Go.AE
open Go.RowKit
section
variable {C : Ctx} {T : AT} {H : AH} {nx : Nat} {d : Option Tmp} {ty : TypeId} {pos : String} {after : Array Edge} {g : Option (Nat × Bool)}
theorem U_appL {sT xT e e' z n n' : Nat} {x y : Operand} {s v : AV} {news : List AV} [hT : TySl C.P sT e z] [hX : TySl C.P xT e' z] [hE : TyElem C.P e z] (hx : ev T x = some s) (hs : srcS z H s = some ([], 0)) (hc0 : capOf s = some 0) (hy : ev T y = some v) (h2 : srcS z H v = some (news, n)) (hn : 0 < n) (hlim : n ≤ 1000000) (hn' : n = n') :
    OpU C ⟨d, .call ⟨.builtin .append, #[x, y], #[sT, xT]⟩, ty, pos, after, g⟩ T H nx (.out nx n' z) [(nx, outB news e n')] (nx + 1) := by
  subst hn'
  cases n with
  | zero => cases hn
  | succ m =>
    have h := U_appendGrow (C := C) (T := T) (H := H) (nx := nx) (d := d) (ty := ty) (pos := pos) (after := after) (g := g) (sT := sT) (xT := xT) hx hy hs h2 hc0 (by omega) (by omega)
    rw [Nat.zero_add] at h
    exact OpU.weakV (fun _ _ _ _ h => con_outS.2 h) h
end
end Go.AE
end

section
namespace Go.Proofs.Ythmibifghihdaaa
set_option maxRecDepth 20000
open Go.AE
theorem chkB_ok {b : Bk} (h : chkB b = 0) : ∃ (n : Nat) (ks : List (Nat × Nat)), b = ⟨n, ks.map cP⟩ ∧ VB n ks ∧ ks.length ≤ 40 := by
  unfold chkB at h
  split at h
  · omega
  · rename_i h1
    split at h
    · omega
    · rename_i h2
      have h1' : (1 ≤ b.n ∧ b.n ≤ 10) ∧ b.ls.length ≤ 40 := by simp [inL1] at h1; omega
      have h2' : ∀ p ∈ b.ls, (0 ≤ p.1 ∧ p.1 < b.n) ∧ (0 ≤ p.2 ∧ p.2 < b.n) ∧ p.1 ≠ p.2 := by
        intro p hp
        have : strB b.n p = false := by
          cases e : strB b.n p with
          | false => rfl
          | true => exact absurd (List.any_eq_true.2 ⟨p, hp, e⟩) h2
        rw [strB_eq] at this; simp [staB] at this; omega
      refine ⟨b.n.toNat, b.ls.map fun p => (p.1.toNat, p.2.toNat), ?_, ⟨by omega, by omega, by simp; omega, fun p hp => ?_⟩, by simp; omega⟩
      · obtain ⟨n, ls⟩ := b
        simp only at h1' h2'
        have e1 : ((n.toNat : Nat) : Int) = n := by omega
        have e2 : (ls.map fun p => (p.1.toNat, p.2.toNat)).map cP = ls := by
          rw [List.map_map]
          refine (List.map_congr_left fun p hp => ?_).trans (List.map_id _)
          have := h2' p hp
          refine Prod.ext ?_ ?_ <;> simp [cP] <;> omega
        rw [e1, e2]
      · obtain ⟨q, hq, rfl⟩ := List.mem_map.1 hp
        have := h2' q hq
        refine ⟨?_, ?_, ?_⟩ <;> simp only <;> omega
theorem openE_p (b : Bk) (c : Option Nat) (hl : b.ls.length ≤ 1000000) (hE : chkB b ≠ 0) : Pure Try.prog 59 [bookA b c] (.tup [.nilp, i64 (chkB b)]) := by
  refine pure_of_body Try.func59 (c := body Try.f59) rfl (by simp [Try.ntmps59]) fun w0 Φ0 => ?_
  refine W_seq rfl ?_
  refine W_reg rfl ?_
  refine Rv rfl rfl rfl (U_boxF rfl rfl rfl) rfl rfl ?_
  refine Rv rfl rfl rfl (U_assign rfl) rfl rfl ?_
  refine Rv rfl rfl rfl (U_assign rfl) rfl rfl ?_
  refine Re rfl ?_
  refine thenQ_n ?_
  refine W_seq rfl ?_
  refine W_seq rfl ?_
  refine W_reg rfl ?_
  refine Rv rfl rfl rfl (U_load2 rfl rfl rfl rfl) rfl rfl ?_
  refine Rv rfl rfl rfl (U_call rfl rfl (chkB_p b c hl) rfl) rfl rfl ?_
  refine Rv rfl rfl rfl (U_assign rfl) rfl rfl ?_
  refine Re rfl ?_
  refine thenQ_n ?_
  refine W_seq rfl ?_
  refine W_reg rfl ?_
  refine Rv rfl rfl rfl (U_move rfl) rfl rfl ?_
  refine Rv rfl rfl rfl (U_neq rfl rfl) rfl rfl ?_
  refine Re rfl ?_
  refine thenQ_n ?_
  refine WcondP rfl rfl (fun hc0 => ?_) (fun hc0 => absurd (hE) hc0)
  refine W_seq rfl ?_
  refine W_reg rfl ?_
  refine Rv rfl rfl rfl (U_move rfl) rfl rfl ?_
  refine Rv rfl rfl rfl (U_assign rfl) rfl rfl ?_
  refine Rv rfl rfl rfl (U_assign rfl) rfl rfl ?_
  refine Re rfl ?_
  refine thenQ_n ?_
  refine W_ret rfl ?_
  refine thenQ_r ?_
  exact retL (rlT rfl (rlT rfl rl0)) rfl rfl
end Go.Proofs.Ythmibifghihdaaa
end

section
namespace Go.Proofs.Ythmibifghihdaaa
set_option maxRecDepth 20000
open Go.AE
theorem ruledE_p (b : Bk) (c : Option Nat) (hl : b.ls.length ≤ 1000000) (hE : chkB b ≠ 0) (l : List Int) (d : Option Nat) : Pure Try.prog 63 [bookA b c, intsA l d] (.tup [.nilp, i64 (chkB b)]) := by
  refine pure_of_body Try.func63 (c := body Try.f63) rfl (by simp [Try.ntmps63]) fun w0 Φ0 => ?_
  refine W_seq rfl ?_
  refine W_reg rfl ?_
  refine Rv rfl rfl rfl (U_boxF rfl rfl rfl) rfl rfl ?_
  refine Rv rfl rfl rfl (U_assign rfl) rfl rfl ?_
  refine Rv rfl rfl rfl (U_assign rfl) rfl rfl ?_
  refine Re rfl ?_
  refine thenQ_n ?_
  refine W_seq rfl ?_
  refine W_reg rfl ?_
  refine Rv rfl rfl rfl (U_load2 rfl rfl rfl rfl) rfl rfl ?_
  refine Rv rfl rfl rfl (U_call rfl rfl (openE_p b c hl hE) rfl) rfl rfl ?_
  refine Rv rfl rfl rfl (U_move rfl) rfl rfl ?_
  refine Rv rfl rfl rfl (U_extract rfl rfl) rfl rfl ?_
  refine Rv rfl rfl rfl (U_extract rfl rfl) rfl rfl ?_
  refine Rv rfl rfl rfl (U_assign rfl) rfl rfl ?_
  refine Rv rfl rfl rfl (U_assign rfl) rfl rfl ?_
  refine Re rfl ?_
  refine thenQ_n ?_
  refine W_seq rfl ?_
  refine W_block rfl ?_
  refine W_seq rfl ?_
  refine W_reg rfl ?_
  refine Rv rfl rfl rfl (U_move rfl) rfl rfl ?_
  refine Rv rfl rfl rfl (U_neq rfl rfl) rfl rfl ?_
  refine Rv rfl rfl rfl (U_assign rfl) rfl rfl ?_
  refine Re rfl ?_
  refine thenQ_n ?_
  refine WcondP rfl rfl (fun hc0 => ?_) (fun hc0 => absurd (hE) hc0)
  refine W_seq rfl ?_
  refine W_reg rfl ?_
  refine Rv rfl rfl rfl (U_move rfl) rfl rfl ?_
  refine Rv rfl rfl rfl (U_assign rfl) rfl rfl ?_
  refine Rv rfl rfl rfl (U_assign rfl) rfl rfl ?_
  refine Re rfl ?_
  refine thenQ_n ?_
  refine W_ret rfl ?_
  refine blkQ_r ?_
  refine thenQ_r ?_
  exact retL (rlT rfl (rlT rfl rl0)) rfl rfl
end Go.Proofs.Ythmibifghihdaaa
end

section
namespace Go.Proofs.Ythmibifghihdaaa
set_option maxRecDepth 20000
open Go.AE
theorem idx_at {q : List Nat} (hn : q.Nodup) {i : Nat} (hi : i < q.length) : idxI (fun y => decide (q[i] = y)) q = i :=
  idx_hit hi (fun j hj h => by
    have := List.pairwise_iff_getElem.1 hn j i hj hi h
    simp; exact fun e => this e.symm) (by simp)
theorem vio_iff {n : Nat} {ks : List (Nat × Nat)} (hv : VB n ks) {q : List Nat} (hn : q.Nodup) (hl : q.length = n) (hq : ∀ x ∈ q, x < n) : ks.any (vioP q) = true ↔ ∃ i k, k < i ∧ i < q.length ∧ (q.getD i 0, q.getD k 0) ∈ ks := by
  rw [List.any_eq_true]
  constructor
  · rintro ⟨p, hp, h⟩
    have h1 := hv.2.2.2 p hp
    obtain ⟨i, hi, e1⟩ := List.getElem_of_mem (all_in hn hl hq h1.1)
    obtain ⟨k, hk, e2⟩ := List.getElem_of_mem (all_in hn hl hq h1.2.1)
    unfold vioP at h
    rw [← e1, ← e2, idx_at hn hi, idx_at hn hk] at h
    have h : k < i := by simpa using h
    refine ⟨i, k, h, hi, ?_⟩
    rw [getD_eq hi, getD_eq hk, e1, e2]; exact hp
  · rintro ⟨i, k, h1, h2, h3⟩
    refine ⟨_, h3, ?_⟩
    rw [getD_eq h2, getD_eq (by omega : k < q.length)]
    unfold vioP
    rw [idx_at hn h2, idx_at hn (by omega)]
    simpa using h1
theorem checkOrderR_n (n : Nat) (ks : List (Nat × Nat)) (c : Option Nat) (hv : VB n ks) (h40 : ks.length ≤ 40) (q : List Nat) (d : Option Nat) (hql : q.length ≤ 1000000) (hqn : ∀ x ∈ q, x < n) (hne : q.length = n) : Pure Try.prog 23 [bknA n ks c, natsA q d] (i64 (chkON ks q)) := by
  have hv' := hv
  obtain ⟨hn1, hn, hkl, hk⟩ := hv'
  have hk2 := vb_lt hv
  refine pure_of_body Try.func23 (c := body Try.f23) rfl (by simp [Try.ntmps23]) fun w0 Φ0 => ?_
  refine W_seq rfl ?_
  refine W_reg rfl ?_
  refine Rv rfl rfl rfl (U_boxF rfl rfl rfl) rfl rfl ?_
  refine Rv rfl rfl rfl (U_assign rfl) rfl rfl ?_
  refine Re rfl ?_
  refine thenQ_n ?_
  refine W_seq rfl ?_
  refine W_seq rfl ?_
  refine W_reg rfl ?_
  refine Rv rfl rfl rfl (U_load2 rfl rfl rfl rfl) rfl rfl ?_
  refine Rv rfl rfl rfl (U_call rfl rfl (chkBRG_p n ks c hv h40) rfl) rfl rfl ?_
  refine Rv rfl rfl rfl (U_neq rfl rfl) rfl rfl ?_
  refine Re rfl ?_
  refine thenQ_n ?_
  refine WcondP rfl rfl (fun h => absurd h (by decide)) (fun _ => ?_)
  refine W_skip rfl ?_
  refine thenQ_n ?_
  refine W_seq rfl ?_
  refine W_seq rfl ?_
  refine W_reg rfl ?_
  refine Rv rfl rfl rfl (U_move rfl) rfl rfl ?_
  refine Rv rfl rfl rfl (U_lenOf rfl len_ros) rfl rfl ?_
  refine Rv rfl rfl rfl (U_fieldAddrR rfl) rfl rfl ?_
  refine Rv rfl rfl rfl (U_load1 rfl rfl rfl) rfl rfl ?_
  refine Rv rfl rfl rfl (U_neq rfl rfl) rfl rfl ?_
  refine Re rfl ?_
  refine thenQ_n ?_
  refine WcondP rfl rfl (fun hc1 => absurd hc1 (by omega)) (fun hc1 => ?_)
  refine W_skip rfl ?_
  refine thenQ_n ?_
  refine W_seq rfl ?_
  refine W_seq rfl ?_
  refine W_reg rfl ?_
  refine Rv rfl rfl rfl (U_assign rfl) rfl rfl ?_
  refine Re rfl ?_
  refine thenQ_n ?_
  refine W_block rfl ?_
  refine LoopTo (T' := [(1, .ros (q.map n64) q.length d), (2, .rop [i64 ((n : Nat) : Int), .ros (ks.flatMap lkN) ks.length c] 0), (5, i64 ((0 : Nat) : Int))]) (H' := []) (n := 0) rfl (fun mz_ qz_ => ∃ (k : Nat), k ≤ q.length ∧ mz_ = q.length - k ∧ qz_ = ⟨[(1, .ros (q.map n64) q.length d), (2, .rop [i64 ((n : Nat) : Int), .ros (ks.flatMap lkN) ks.length c] 0), (5, i64 ((k : Nat) : Int))], [], 0, []⟩) ⟨0, (by omega), rfl, rfl⟩ id ⟨eD rfl rfl, eD rfl rfl, eD rfl rfl, trivial⟩ trivial rfl rfl rfl rfl (fun _ _ => rfl) ?_
  rintro _ _ ⟨k, hi0_0, rfl, rfl⟩
  refine W_seq rfl ?_
  refine W_seq rfl ?_
  refine W_reg rfl ?_
  refine Rv rfl rfl rfl (U_move rfl) rfl rfl ?_
  refine Rv rfl rfl rfl (U_move rfl) rfl rfl ?_
  refine Rv rfl rfl rfl (U_lenOf rfl len_ros) rfl rfl ?_
  refine Rv rfl rfl rfl (U_lss rfl rfl) rfl rfl ?_
  refine Re rfl ?_
  refine thenQ_n ?_
  refine WcondP rfl rfl (fun hc2 => ?_) (fun hc2 => ?_)
  · have hck : k < q.length := by omega
    have hqk := hqn _ (List.getElem_mem hck)
    refine W_skip rfl ?_
    refine thenQ_n ?_
    refine W_seq rfl ?_
    refine W_block rfl ?_
    refine W_seq rfl ?_
    refine Wdraw rfl (by kernel_rfl) (by kernel_rfl) ?_
    refine Dv rfl rfl rfl (U_load2 rfl rfl rfl rfl) rfl rfl ?_
    refine Dv rfl rfl rfl (U_move rfl) rfl rfl ?_
    refine Dv rfl rfl rfl (U_move rfl) rfl rfl ?_
    have hx1 : k < q.length := by omega
    refine Dv rfl rfl rfl (U_indexR (j := k) rfl rfl rfl hx1) rfl rfl ?_
    refine Dv rfl rfl rfl (U_load1 rfl rfl (getM hx1)) rfl rfl ?_
    refine Dv rfl rfl rfl (U_call rfl rfl (isStarG_p n ks c ((q[k] : Nat) : Int)) rfl) rfl rfl ?_
    refine Dv rfl rfl rfl (U_not rfl) rfl rfl ?_
    refine Dr.nil rfl ?_
    refine thenQ_n ?_
    refine Wcond rfl rfl (fun hc3 => absurd hc3 (by rw [sta_nat hqk]; simp)) (fun hc3 => ?_)
    refine W_skip rfl ?_
    refine blkQ_n ?_
    refine thenQ_n ?_
    refine W_reg rfl ?_
    refine Rv rfl rfl rfl (U_move rfl) rfl rfl ?_
    refine Rv rfl rfl rfl (U_add rfl rfl (w64e (m := ((k + 1 : Nat) : Int)) (by omega) (by omega) (by omega))) rfl rfl ?_
    refine Rv rfl rfl rfl (U_assign rfl) rfl rfl ?_
    refine Re rfl ?_
    refine thenQ_n ?_
    exact againTo (T' := [(1, .ros (q.map n64) q.length d), (2, .rop [i64 ((n : Nat) : Int), .ros (ks.flatMap lkN) ks.length c] 0), (5, i64 (((k + 1) : Nat) : Int))]) (H' := []) (n := 0) (q.length - (k + 1)) ⟨k + 1, (by omega), rfl, rfl⟩ (by omega) id ⟨eD rfl rfl, eD rfl rfl, eD rfl rfl, trivial⟩ trivial rfl rfl rfl rfl (fun _ _ => rfl)
  · refine W_exit rfl ?_
    refine thenQ_x ?_
    refine thenQ_x ?_
    refine blkQ_x rfl ?_
    refine thenQ_n ?_
    refine W_seq rfl ?_
    refine W_seq rfl ?_
    refine W_reg rfl ?_
    refine Rv rfl rfl rfl (U_assign rfl) rfl rfl ?_
    refine Re rfl ?_
    refine thenQ_n ?_
    refine W_block rfl ?_
    refine LoopTo (T' := [(1, .ros (q.map n64) q.length d), (2, .rop [i64 ((n : Nat) : Int), .ros (ks.flatMap lkN) ks.length c] 0), (6, i64 ((0 : Nat) : Int))]) (H' := []) (n := 0) rfl (fun mz_ qz_ => ∃ (i : Nat), i ≤ q.length ∧ (q.take i).Nodup ∧ mz_ = q.length - i ∧ qz_ = ⟨[(1, .ros (q.map n64) q.length d), (2, .rop [i64 ((n : Nat) : Int), .ros (ks.flatMap lkN) ks.length c] 0), (6, i64 ((i : Nat) : Int))], [], 0, []⟩) ⟨0, (by omega), (by simp), rfl, rfl⟩ id ⟨eD rfl rfl, eD rfl rfl, eD rfl rfl, trivial⟩ trivial rfl rfl rfl rfl (fun _ _ => rfl) ?_
    rintro _ _ ⟨i, hi1_0, hi1_1, rfl, rfl⟩
    refine W_seq rfl ?_
    refine W_seq rfl ?_
    refine W_reg rfl ?_
    refine Rv rfl rfl rfl (U_move rfl) rfl rfl ?_
    refine Rv rfl rfl rfl (U_move rfl) rfl rfl ?_
    refine Rv rfl rfl rfl (U_lenOf rfl len_ros) rfl rfl ?_
    refine Rv rfl rfl rfl (U_lss rfl rfl) rfl rfl ?_
    refine Re rfl ?_
    refine thenQ_n ?_
    refine WcondP rfl rfl (fun hc4 => ?_) (fun hc4 => ?_)
    · have hci : i < q.length := by omega
      refine W_skip rfl ?_
      refine thenQ_n ?_
      refine W_seq rfl ?_
      refine W_block rfl ?_
      refine W_seq rfl ?_
      refine W_reg rfl ?_
      refine Rv rfl rfl rfl (U_assign rfl) rfl rfl ?_
      refine Re rfl ?_
      refine thenQ_n ?_
      refine W_block rfl ?_
      refine LoopTo (T' := [(1, .ros (q.map n64) q.length d), (2, .rop [i64 ((n : Nat) : Int), .ros (ks.flatMap lkN) ks.length c] 0), (6, i64 ((i : Nat) : Int)), (7, i64 ((0 : Nat) : Int))]) (H' := []) (n := 0) rfl (fun mz_ qz_ => ∃ (k : Nat), k ≤ i ∧ (∀ j (hj : j < i), j < k → q[j]'(by omega) ≠ q[i]) ∧ mz_ = i - k ∧ qz_ = ⟨[(1, .ros (q.map n64) q.length d), (2, .rop [i64 ((n : Nat) : Int), .ros (ks.flatMap lkN) ks.length c] 0), (6, i64 ((i : Nat) : Int)), (7, i64 ((k : Nat) : Int))], [], 0, []⟩) ⟨0, (by omega), (fun j hj h => absurd h (Nat.not_lt_zero _)), rfl, rfl⟩ id ⟨eD rfl rfl, eD rfl rfl, eD rfl rfl, eD rfl rfl, trivial⟩ trivial rfl rfl rfl rfl (fun _ _ => rfl) ?_
      rintro _ _ ⟨k, hi2_0, hi2_1, rfl, rfl⟩
      refine W_seq rfl ?_
      refine W_seq rfl ?_
      refine W_reg rfl ?_
      refine Rv rfl rfl rfl (U_move rfl) rfl rfl ?_
      refine Rv rfl rfl rfl (U_move rfl) rfl rfl ?_
      refine Rv rfl rfl rfl (U_lss rfl rfl) rfl rfl ?_
      refine Re rfl ?_
      refine thenQ_n ?_
      refine WcondP rfl rfl (fun hc5 => ?_) (fun hc5 => ?_)
      · have hkq : k < q.length := by omega
        refine W_skip rfl ?_
        refine thenQ_n ?_
        refine W_seq rfl ?_
        refine W_block rfl ?_
        refine W_seq rfl ?_
        refine Wdraw rfl (by kernel_rfl) (by kernel_rfl) ?_
        refine Dv rfl rfl rfl (U_move rfl) rfl rfl ?_
        refine Dv rfl rfl rfl (U_move rfl) rfl rfl ?_
        have hx2 : k < q.length := by omega
        refine Dv rfl rfl rfl (U_indexR (j := k) rfl rfl rfl hx2) rfl rfl ?_
        refine Dv rfl rfl rfl (U_load1 rfl rfl (getM hx2)) rfl rfl ?_
        refine Dv rfl rfl rfl (U_move rfl) rfl rfl ?_
        refine Dv rfl rfl rfl (U_move rfl) rfl rfl ?_
        have hx3 : i < q.length := by omega
        refine Dv rfl rfl rfl (U_indexR (j := i) rfl rfl rfl hx3) rfl rfl ?_
        refine Dv rfl rfl rfl (U_load1 rfl rfl (getM hx3)) rfl rfl ?_
        refine Dv rfl rfl rfl (U_eql rfl rfl) rfl rfl ?_
        refine Dr.nil rfl ?_
        refine thenQ_n ?_
        refine WcondP rfl rfl (fun hc6 => ?_) (fun hc6 => ?_)
        · refine W_seq rfl ?_
          refine W_reg rfl ?_
          refine Rv rfl rfl rfl (U_assign rfl) rfl rfl ?_
          refine Re rfl ?_
          refine thenQ_n ?_
          refine W_ret rfl ?_
          refine blkQ_r ?_
          refine thenQ_r ?_
          refine thenQ_r ?_
          refine blkQ_r ?_
          refine blkQ_r ?_
          refine thenQ_r ?_
          refine thenQ_r ?_
          refine blkQ_r ?_
          refine thenQ_r ?_
          exact retL (rlT rfl rl0) (by first | rfl | (simp only [packA]; rw [chkON, if_pos (not_nodup hci (List.any_eq_true.2 ⟨q[k], List.mem_take_iff_getElem.2 ⟨k, by omega, rfl⟩, by simp; omega⟩))]; first | done | rfl) | (simp only [packA]; rw [chkON, if_neg (by simpa using hnd), if_pos ((vio_iff hv hnd hne hqn).2 ⟨i, k, by omega, hci, by rw [getD_eq hci, getD_eq hkq]; simpa using hc9⟩)]; first | done | rfl) | (simp only [packA]; rw [chkON, if_neg (by simpa using hnd), if_neg fun h => by obtain ⟨i2, j, h1, h2, h3⟩ := (vio_iff hv hnd hne hqn).1 h; exact hi3_1 i2 j h1 (by omega) h3]; first | done | rfl)) rfl
        · refine W_skip rfl ?_
          refine blkQ_n ?_
          refine thenQ_n ?_
          refine W_reg rfl ?_
          refine Rv rfl rfl rfl (U_move rfl) rfl rfl ?_
          refine Rv rfl rfl rfl (U_add rfl rfl (w64e (m := ((k + 1 : Nat) : Int)) (by omega) (by omega) (by omega))) rfl rfl ?_
          refine Rv rfl rfl rfl (U_assign rfl) rfl rfl ?_
          refine Re rfl ?_
          refine thenQ_n ?_
          exact againTo (T' := [(1, .ros (q.map n64) q.length d), (2, .rop [i64 ((n : Nat) : Int), .ros (ks.flatMap lkN) ks.length c] 0), (6, i64 ((i : Nat) : Int)), (7, i64 (((k + 1) : Nat) : Int))]) (H' := []) (n := 0) (i - (k + 1)) ⟨k + 1, (by omega), (by intro j hj h; rcases Nat.lt_succ_iff_lt_or_eq.1 h with h | rfl; exact hi2_1 j hj h; omega), rfl, rfl⟩ (by omega) id ⟨eD rfl rfl, eD rfl rfl, eD rfl rfl, eD rfl rfl, trivial⟩ trivial rfl rfl rfl rfl (fun _ _ => rfl)
      · refine W_exit rfl ?_
        refine thenQ_x ?_
        refine thenQ_x ?_
        refine blkQ_x rfl ?_
        refine blkQ_n ?_
        refine thenQ_n ?_
        refine W_reg rfl ?_
        refine Rv rfl rfl rfl (U_move rfl) rfl rfl ?_
        refine Rv rfl rfl rfl (U_add rfl rfl (w64e (m := ((i + 1 : Nat) : Int)) (by omega) (by omega) (by omega))) rfl rfl ?_
        refine Rv rfl rfl rfl (U_assign rfl) rfl rfl ?_
        refine Re rfl ?_
        refine thenQ_n ?_
        exact againTo (T' := [(1, .ros (q.map n64) q.length d), (2, .rop [i64 ((n : Nat) : Int), .ros (ks.flatMap lkN) ks.length c] 0), (6, i64 (((i + 1) : Nat) : Int))]) (H' := []) (n := 0) (q.length - (i + 1)) ⟨i + 1, (by omega), (by refine nodup_take hci hi1_1 ?_; rw [any_false]; intro j hj; have h3 : j < i := (by rw [List.length_take] at hj; omega); have h4 := hi2_1 j h3 (by omega); rw [List.getElem_take, decide_eq_false_iff_not]; exact fun e => h4 e.symm), rfl, rfl⟩ (by omega) id ⟨eD rfl rfl, eD rfl rfl, eD rfl rfl, trivial⟩ trivial rfl rfl rfl rfl (fun _ _ => rfl)
    · have hnd : q.Nodup := by have := hi1_1; rwa [List.take_of_length_le (by omega)] at this
      refine W_exit rfl ?_
      refine thenQ_x ?_
      refine thenQ_x ?_
      refine blkQ_x rfl ?_
      refine thenQ_n ?_
      refine W_seq rfl ?_
      refine W_seq rfl ?_
      refine W_reg rfl ?_
      refine Rv rfl rfl rfl (U_assign rfl) rfl rfl ?_
      refine Re rfl ?_
      refine thenQ_n ?_
      refine W_block rfl ?_
      refine LoopTo (T' := [(1, .ros (q.map n64) q.length d), (2, .rop [i64 ((n : Nat) : Int), .ros (ks.flatMap lkN) ks.length c] 0), (8, i64 ((0 : Nat) : Int))]) (H' := []) (n := 0) rfl (fun mz_ qz_ => ∃ (i : Nat), i ≤ q.length ∧ (∀ i2 j, j < i2 → i2 < i → (q.getD i2 0, q.getD j 0) ∉ ks) ∧ mz_ = q.length - i ∧ qz_ = ⟨[(1, .ros (q.map n64) q.length d), (2, .rop [i64 ((n : Nat) : Int), .ros (ks.flatMap lkN) ks.length c] 0), (8, i64 ((i : Nat) : Int))], [], 0, []⟩) ⟨0, (by omega), (fun i2 j _ h => absurd h (Nat.not_lt_zero _)), rfl, rfl⟩ id ⟨eD rfl rfl, eD rfl rfl, eD rfl rfl, trivial⟩ trivial rfl rfl rfl rfl (fun _ _ => rfl) ?_
      rintro _ _ ⟨i, hi3_0, hi3_1, rfl, rfl⟩
      refine W_seq rfl ?_
      refine W_seq rfl ?_
      refine W_reg rfl ?_
      refine Rv rfl rfl rfl (U_move rfl) rfl rfl ?_
      refine Rv rfl rfl rfl (U_move rfl) rfl rfl ?_
      refine Rv rfl rfl rfl (U_lenOf rfl len_ros) rfl rfl ?_
      refine Rv rfl rfl rfl (U_lss rfl rfl) rfl rfl ?_
      refine Re rfl ?_
      refine thenQ_n ?_
      refine WcondP rfl rfl (fun hc7 => ?_) (fun hc7 => ?_)
      · have hci : i < q.length := by omega
        refine W_skip rfl ?_
        refine thenQ_n ?_
        refine W_seq rfl ?_
        refine W_block rfl ?_
        refine W_seq rfl ?_
        refine W_reg rfl ?_
        refine Rv rfl rfl rfl (U_assign rfl) rfl rfl ?_
        refine Re rfl ?_
        refine thenQ_n ?_
        refine W_block rfl ?_
        refine LoopTo (T' := [(1, .ros (q.map n64) q.length d), (2, .rop [i64 ((n : Nat) : Int), .ros (ks.flatMap lkN) ks.length c] 0), (8, i64 ((i : Nat) : Int)), (9, i64 ((0 : Nat) : Int))]) (H' := []) (n := 0) rfl (fun mz_ qz_ => ∃ (k : Nat), k ≤ i ∧ (∀ j, j < k → (q.getD i 0, q.getD j 0) ∉ ks) ∧ mz_ = i - k ∧ qz_ = ⟨[(1, .ros (q.map n64) q.length d), (2, .rop [i64 ((n : Nat) : Int), .ros (ks.flatMap lkN) ks.length c] 0), (8, i64 ((i : Nat) : Int)), (9, i64 ((k : Nat) : Int))], [], 0, []⟩) ⟨0, (by omega), (fun j h => absurd h (Nat.not_lt_zero _)), rfl, rfl⟩ id ⟨eD rfl rfl, eD rfl rfl, eD rfl rfl, eD rfl rfl, trivial⟩ trivial rfl rfl rfl rfl (fun _ _ => rfl) ?_
        rintro _ _ ⟨k, hi4_0, hi4_1, rfl, rfl⟩
        refine W_seq rfl ?_
        refine W_seq rfl ?_
        refine W_reg rfl ?_
        refine Rv rfl rfl rfl (U_move rfl) rfl rfl ?_
        refine Rv rfl rfl rfl (U_move rfl) rfl rfl ?_
        refine Rv rfl rfl rfl (U_lss rfl rfl) rfl rfl ?_
        refine Re rfl ?_
        refine thenQ_n ?_
        refine WcondP rfl rfl (fun hc8 => ?_) (fun hc8 => ?_)
        · have hkq : k < q.length := by omega
          refine W_skip rfl ?_
          refine thenQ_n ?_
          refine W_seq rfl ?_
          refine W_block rfl ?_
          refine W_seq rfl ?_
          refine Wdraw rfl (by kernel_rfl) (by kernel_rfl) ?_
          refine Dv rfl rfl rfl (U_load2 rfl rfl rfl rfl) rfl rfl ?_
          refine Dv rfl rfl rfl (U_move rfl) rfl rfl ?_
          refine Dv rfl rfl rfl (U_move rfl) rfl rfl ?_
          have hx4 : i < q.length := by omega
          refine Dv rfl rfl rfl (U_indexR (j := i) rfl rfl rfl hx4) rfl rfl ?_
          refine Dv rfl rfl rfl (U_load1 rfl rfl (getM hx4)) rfl rfl ?_
          refine Dv rfl rfl rfl (U_move rfl) rfl rfl ?_
          refine Dv rfl rfl rfl (U_move rfl) rfl rfl ?_
          have hx5 : k < q.length := by omega
          refine Dv rfl rfl rfl (U_indexR (j := k) rfl rfl rfl hx5) rfl rfl ?_
          refine Dv rfl rfl rfl (U_load1 rfl rfl (getM hx5)) rfl rfl ?_
          refine Dv rfl rfl rfl (U_call rfl rfl (look_p n ks c q[i] q[k] (by first | assumption | omega)) rfl) rfl rfl ?_
          refine Dr.nil rfl ?_
          refine thenQ_n ?_
          refine WcondP rfl rfl (fun hc9 => ?_) (fun hc9 => ?_)
          · refine W_seq rfl ?_
            refine W_reg rfl ?_
            refine Rv rfl rfl rfl (U_assign rfl) rfl rfl ?_
            refine Re rfl ?_
            refine thenQ_n ?_
            refine W_ret rfl ?_
            refine blkQ_r ?_
            refine thenQ_r ?_
            refine thenQ_r ?_
            refine blkQ_r ?_
            refine blkQ_r ?_
            refine thenQ_r ?_
            refine thenQ_r ?_
            refine blkQ_r ?_
            refine thenQ_r ?_
            exact retL (rlT rfl rl0) (by first | rfl | (simp only [packA]; rw [chkON, if_pos (not_nodup hci (List.any_eq_true.2 ⟨q[k], List.mem_take_iff_getElem.2 ⟨k, by omega, rfl⟩, by simp; omega⟩))]; first | done | rfl) | (simp only [packA]; rw [chkON, if_neg (by simpa using hnd), if_pos ((vio_iff hv hnd hne hqn).2 ⟨i, k, by omega, hci, by rw [getD_eq hci, getD_eq hkq]; simpa using hc9⟩)]; first | done | rfl) | (simp only [packA]; rw [chkON, if_neg (by simpa using hnd), if_neg fun h => by obtain ⟨i2, j, h1, h2, h3⟩ := (vio_iff hv hnd hne hqn).1 h; exact hi3_1 i2 j h1 (by omega) h3]; first | done | rfl)) rfl
          · refine W_skip rfl ?_
            refine blkQ_n ?_
            refine thenQ_n ?_
            refine W_reg rfl ?_
            refine Rv rfl rfl rfl (U_move rfl) rfl rfl ?_
            refine Rv rfl rfl rfl (U_add rfl rfl (w64e (m := ((k + 1 : Nat) : Int)) (by omega) (by omega) (by omega))) rfl rfl ?_
            refine Rv rfl rfl rfl (U_assign rfl) rfl rfl ?_
            refine Re rfl ?_
            refine thenQ_n ?_
            exact againTo (T' := [(1, .ros (q.map n64) q.length d), (2, .rop [i64 ((n : Nat) : Int), .ros (ks.flatMap lkN) ks.length c] 0), (8, i64 ((i : Nat) : Int)), (9, i64 (((k + 1) : Nat) : Int))]) (H' := []) (n := 0) (i - (k + 1)) ⟨k + 1, (by omega), (by intro j h; rcases Nat.lt_succ_iff_lt_or_eq.1 h with h | rfl; exact hi4_1 j h; rw [getD_eq hci, getD_eq (by omega)]; simpa using hc9), rfl, rfl⟩ (by omega) id ⟨eD rfl rfl, eD rfl rfl, eD rfl rfl, eD rfl rfl, trivial⟩ trivial rfl rfl rfl rfl (fun _ _ => rfl)
        · refine W_exit rfl ?_
          refine thenQ_x ?_
          refine thenQ_x ?_
          refine blkQ_x rfl ?_
          refine blkQ_n ?_
          refine thenQ_n ?_
          refine W_reg rfl ?_
          refine Rv rfl rfl rfl (U_move rfl) rfl rfl ?_
          refine Rv rfl rfl rfl (U_add rfl rfl (w64e (m := ((i + 1 : Nat) : Int)) (by omega) (by omega) (by omega))) rfl rfl ?_
          refine Rv rfl rfl rfl (U_assign rfl) rfl rfl ?_
          refine Re rfl ?_
          refine thenQ_n ?_
          exact againTo (T' := [(1, .ros (q.map n64) q.length d), (2, .rop [i64 ((n : Nat) : Int), .ros (ks.flatMap lkN) ks.length c] 0), (8, i64 (((i + 1) : Nat) : Int))]) (H' := []) (n := 0) (q.length - (i + 1)) ⟨i + 1, (by omega), (by intro i2 j h1 h2; rcases Nat.lt_succ_iff_lt_or_eq.1 h2 with h | rfl; exact hi3_1 i2 j h1 h; exact hi4_1 j (by omega)), rfl, rfl⟩ (by omega) id ⟨eD rfl rfl, eD rfl rfl, eD rfl rfl, trivial⟩ trivial rfl rfl rfl rfl (fun _ _ => rfl)
      · refine W_exit rfl ?_
        refine thenQ_x ?_
        refine thenQ_x ?_
        refine blkQ_x rfl ?_
        refine thenQ_n ?_
        refine W_seq rfl ?_
        refine W_reg rfl ?_
        refine Rv rfl rfl rfl (U_assign rfl) rfl rfl ?_
        refine Re rfl ?_
        refine thenQ_n ?_
        refine W_ret rfl ?_
        exact retL (rlT rfl rl0) (by first | rfl | (simp only [packA]; rw [chkON, if_pos (not_nodup hci (List.any_eq_true.2 ⟨q[k], List.mem_take_iff_getElem.2 ⟨k, by omega, rfl⟩, by simp; omega⟩))]; first | done | rfl) | (simp only [packA]; rw [chkON, if_neg (by simpa using hnd), if_pos ((vio_iff hv hnd hne hqn).2 ⟨i, k, by omega, hci, by rw [getD_eq hci, getD_eq hkq]; simpa using hc9⟩)]; first | done | rfl) | (simp only [packA]; rw [chkON, if_neg (by simpa using hnd), if_neg fun h => by obtain ⟨i2, j, h1, h2, h3⟩ := (vio_iff hv hnd hne hqn).1 h; exact hi3_1 i2 j h1 (by omega) h3]; first | done | rfl)) rfl
end Go.Proofs.Ythmibifghihdaaa
end

section
namespace Go.Proofs.Ythmibifghihdaaa
set_option maxRecDepth 20000
open Go.AE
theorem bfL_S {n : Nat} {ks : List (Nat × Nat)} {k : Nat} (h : k < ks.length) : bfL n (ks.take (k + 1)) = (bfL n (ks.take k)).set ks[k].2 ((bfL n (ks.take k)).getD ks[k].2 0 ||| 1 <<< ks[k].1) := by
  unfold bfL; rw [List.take_succ_eq_append_getElem h, List.foldl_append]; rfl
theorem bf_ok : ∀ (ks : List (Nat × Nat)) (o : List Nat), (∀ x ∈ o, x < 1024) → (∀ p ∈ ks, p.1 < 10) → (ks.foldl (fun o p => o.set p.2 (o.getD p.2 0 ||| 1 <<< p.1)) o).length = o.length ∧ ∀ x ∈ ks.foldl (fun o p => o.set p.2 (o.getD p.2 0 ||| 1 <<< p.1)) o, x < 1024
  | [], o, h, _ => ⟨rfl, h⟩
  | p :: ks, o, h, hk => by
    have h1 : o.getD p.2 0 < 1024 := by
      by_cases e : p.2 < o.length
      · rw [getD_eq e]; exact h _ (List.getElem_mem _)
      · rw [List.getD_eq_getElem?_getD, List.getElem?_eq_none (by omega)]; decide
    have := bf_ok ks (o.set p.2 (o.getD p.2 0 ||| 1 <<< p.1)) (fun x hx => by
      rcases List.mem_or_eq_of_mem_set hx with hx | rfl
      · exact h x hx
      · exact or1024 h1 (shl1024 (hk p (by simp)))) fun q hq => hk q (by simp [hq])
    rw [List.length_set] at this
    exact this
section
variable {n : Nat} {ks : List (Nat × Nat)}
theorem bfL_len (hv : VB n ks) (k : Nat) : (bfL n (ks.take k)).length = n := by
  have := (bf_ok (ks.take k) (List.replicate n 0) (by simp) fun p hp => (vb10 hv p (List.mem_of_mem_take hp)).1).1
  simpa [bfL] using this
theorem bfL_lt (hv : VB n ks) (k : Nat) : ∀ x ∈ bfL n (ks.take k), x < 1024 := (bf_ok (ks.take k) (List.replicate n 0) (by simp) fun p hp => (vb10 hv p (List.mem_of_mem_take hp)).1).2
theorem bfL_len' (hv : VB n ks) : (bfL n ks).length = n := by have := bfL_len hv ks.length; rwa [List.take_length] at this
theorem bfL_lt' (hv : VB n ks) : ∀ x ∈ bfL n ks, x < 1024 := by have := bfL_lt hv ks.length; rwa [List.take_length] at this
end
section
variable {n : Nat} {nx : Nat → Nat → Bool}
def upK (n : Nat) (nx : Nat → Nat → Bool) (s k : Nat) : List Nat := (List.range (1 <<< n)).map fun j => Wp n nx s j + ((List.range k).map fun a => if (nx s a && decide (ad s a = j)) = true then up n nx s else 0).sum
theorem upK_len {s k : Nat} : (upK n nx s k).length = 1 <<< n := by simp [upK]
theorem upK_at {s k j : Nat} (h : j < (upK n nx s k).length) : (upK n nx s k)[j] = Wp n nx s j + ((List.range k).map fun a => if (nx s a && decide (ad s a = j)) = true then up n nx s else 0).sum := by simp [upK]
theorem upK_0 : (List.replicate (1 <<< n) 0).set 0 1 = upK n nx 0 0 := by
  refine List.ext_getElem (by simp [upK]) fun j h1 h2 => ?_
  rw [upK_at, List.getElem_set, Wp_0]
  by_cases e : j = 0
  · subst e; simp
  · simp [e, show ¬ 0 = j by omega]
theorem upK_all (hx : Nxt nx) {s : Nat} : upK n nx s n = upK n nx (s + 1) 0 := by
  refine List.ext_getElem (by simp [upK]) fun j h1 h2 => ?_
  rw [upK_at, upK_at, Wp_S hx]; simp
theorem upK_self (hx : Nxt nx) {s k : Nat} (hs : s < 2 ^ n) (h : s < (upK n nx s k).length) : (upK n nx s k)[s] = up n nx s := by
  rw [upK_at, Wp_end hs (Nat.le_refl _)]
  have : ((List.range k).map fun a => if (nx s a && decide (ad s a = s)) = true then up n nx s else 0) = (List.range k).map fun _ => 0 := List.map_congr_left fun a _ => by
    rw [if_neg]
    intro h
    simp only [Bool.and_eq_true, decide_eq_true_eq] at h
    have := ad_gt (hx _ _ h.1); omega
  rw [this]
  have e : ∀ (l : List Nat), (l.map fun _ => 0).sum = 0 := fun l => by induction l with | nil => rfl | cons x l ih => simpa using ih
  rw [e]; omega
theorem upK_T (hx : Nxt nx) {s k : Nat} (hs : s < 2 ^ n) (h : nx s k = true) {u v : Nat} (hi : ad s k < (upK n nx s k).length) (hu : u = (upK n nx s k)[ad s k]) (hv : v = up n nx s) : (upK n nx s k).set (ad s k) (u + v) = upK n nx s (k + 1) := by
  refine List.ext_getElem (by simp [upK]) fun j h1 h2 => ?_
  rw [List.getElem_set]
  split
  · rename_i e; subst e
    rw [hu, hv, upK_at, upK_at, List.range_succ, List.map_append, List.sum_append]; simp [h]; omega
  · rename_i e
    rw [upK_at, upK_at, List.range_succ, List.map_append, List.sum_append]; simp [e]
theorem upK_F {s k : Nat} (h : nx s k = false) : upK n nx s k = upK n nx s (k + 1) := by
  refine List.ext_getElem (by simp [upK]) fun j h1 h2 => ?_
  rw [upK_at, upK_at, List.range_succ, List.map_append, List.sum_append]; simp [h]
theorem upK_le (hn : n ≤ 10) (hx : Nxt nx) {s k j : Nat} (hk : k ≤ n) (hj : j < 2 ^ n) (h : j < (upK n nx s k).length) : (upK n nx s k)[j] ≤ 3628800 := by
  rw [upK_at]
  have h1 := Wp_mono (nx := nx) (s := s + 1) hj
  rw [Wp_S hx] at h1
  have h2 : ((List.range k).map fun a => if (nx s a && decide (ad s a = j)) = true then up n nx s else 0).sum ≤ ((List.range n).map fun a => if (nx s a && decide (ad s a = j)) = true then up n nx s else 0).sum := by
    obtain ⟨d, rfl⟩ : ∃ d, n = k + d := ⟨n - k, by omega⟩
    rw [List.range_add, List.map_append, List.sum_append]; omega
  exact Nat.le_trans (Nat.le_trans (Nat.add_le_add_left h2 _) h1) (up_lt hn hj)
theorem upK_end {j : Nat} (hj : j < 2 ^ n) (h : j < (upK n nx (1 <<< n) 0).length) : (upK n nx (1 <<< n) 0)[j] = up n nx j := by
  rw [upK_at, Wp_end hj (by rw [one_shl]; omega)]; simp
def enR (n : Nat) (nx : Nat → Nat → Bool) (m k : Nat) : Nat := if m = full n then 1 else enP n nx m ((List.range k).filter (nx m))
def enK (n : Nat) (nx : Nat → Nat → Bool) (m k : Nat) : List Nat := (enV n nx (m + 1)).set m (enR n nx m k)
theorem enK_len {m k : Nat} : (enK n nx m k).length = 1 <<< n := by simp [enK, enV_len]
theorem enK_0 {m : Nat} (hm : m < 2 ^ n) : enK n nx m 0 = enV n nx (min (m + 1) (full n)) := by
  refine List.ext_getElem (by simp [enK, enV_len]) fun j h1 h2 => ?_
  have hj : j < 2 ^ n := by rw [enK_len] at h1; rwa [← one_shl (n := n)]
  have hf : full n = 2 ^ n - 1 := rfl
  simp only [enK]
  rw [List.getElem_set]
  split
  · rename_i e; subst e
    rw [enV_at]
    unfold enR
    split
    · rename_i e2; rw [if_pos (by omega)]; conv => rhs; rw [e2]
      exact en_full.symm
    · rename_i e2; rw [if_neg (by omega)]; rfl
  · rename_i e
    rw [enV_at, enV_at]
    by_cases h3 : m + 1 ≤ j
    · rw [if_pos h3, if_pos (by omega)]
    · rw [if_neg h3, if_neg (by omega)]
theorem enR_all (hx : Nxt nx) {m : Nat} (hm : m < 2 ^ n) : enR n nx m n = en n nx m := by
  unfold enR
  split
  · rename_i e; subst e; exact en_full.symm
  · rename_i e
    rw [enP, sum_filter, en_eq hx hm e]
theorem enK_all (hx : Nxt nx) {m : Nat} (hm : m < 2 ^ n) : enK n nx m n = enV n nx (min m (full n)) := by
  rw [enK, enR_all hx hm, enV_set]
  have : full n = 2 ^ n - 1 := rfl
  rw [Nat.min_eq_left (by omega)]
theorem enR_T {m k : Nat} (hne : m ≠ full n) (h : nx m k = true) : enR n nx m (k + 1) = enR n nx m k + en n nx (ad m k) := by
  unfold enR
  rw [if_neg hne, if_neg hne, List.range_succ, List.filter_append]
  simp [enP, h]
theorem enR_F {m k : Nat} (h : nx m k = false) : enR n nx m (k + 1) = enR n nx m k := by
  unfold enR
  rw [List.range_succ, List.filter_append]
  simp [h]
theorem enK_T {m k : Nat} (hne : m ≠ full n) (h : nx m k = true) {u v : Nat} (hu : u = enR n nx m k) (hv : v = en n nx (ad m k)) : (enK n nx m k).set m (u + v) = enK n nx m (k + 1) := by
  rw [hu, hv, ← enR_T hne h, enK, enK, List.set_set]
theorem enK_F {m k : Nat} (h : nx m k = false) : enK n nx m k = enK n nx m (k + 1) := by rw [enK, enK, enR_F h]
theorem enR_le (hn : n ≤ 10) (hx : Nxt nx) {m k : Nat} (hm : m < 2 ^ n) (hk : k ≤ n) : enR n nx m k ≤ 3628800 := by
  have h1 := en_lt hx hn hm
  rw [← enR_all hx hm] at h1
  have h2 : enR n nx m k ≤ enR n nx m n := by
    unfold enR
    split
    · exact Nat.le_refl _
    · obtain ⟨d, rfl⟩ : ∃ d, n = k + d := ⟨n - k, by omega⟩
      rw [List.range_add, List.filter_append, enP, enP, List.map_append, List.sum_append]; omega
  omega
theorem enK_at1 {m k : Nat} (h : m < (enK n nx m k).length) : (enK n nx m k)[m] = enR n nx m k := by simp [enK]
theorem enK_at2 {m k j : Nat} (h : m < j) (hj : j < (enK n nx m k).length) : (enK n nx m k)[j] = en n nx j := by
  simp only [enK]
  rw [List.getElem_set_ne (by omega), enV_at, if_pos (by omega)]
theorem nx_full (hx : Nxt nx) {k : Nat} (hk : k < n) : nx (full n) k = false := by
  cases e : nx (full n) k with
  | false => rfl
  | true => have := hx _ _ e; rw [full_tb] at this; simp at this; omega
end
end Go.Proofs.Ythmibifghihdaaa
end

section
namespace Go.Proofs.Ythmibifghihdaaa
set_option maxRecDepth 20000
open Go.AE
theorem before_p (n : Nat) (ks : List (Nat × Nat)) (c : Option Nat) (hv : VB n ks) : Pure Try.prog 66 [bknA n ks c] (.ros ((bfL n ks).map n64) n none) := by
  have hv' := hv
  obtain ⟨hn1, hn, hkl, hk⟩ := hv'
  have h1024 := shl_le hn
  have h2n := shl_ge hn1
  refine pure_of_body Try.func66 (c := body Try.f66) rfl (by simp [Try.ntmps66]) fun w0 Φ0 => ?_
  refine W_seq rfl ?_
  refine W_reg rfl ?_
  refine Rv rfl rfl rfl (U_boxF rfl rfl rfl) rfl rfl ?_
  refine Rv rfl rfl rfl (U_assign rfl) rfl rfl ?_
  refine Re rfl ?_
  refine thenQ_n ?_
  refine W_seq rfl ?_
  refine W_reg rfl ?_
  refine Rv rfl rfl rfl (U_fieldAddrR rfl) rfl rfl ?_
  refine Rv rfl rfl rfl (U_load1 rfl rfl rfl) rfl rfl ?_
  refine Ra rfl rfl rfl (U_mkL (n := n) (cs' := (List.replicate n (0 : Nat)).map n64) rfl rfl rfl (by omega) (replM rfl _)) rfl rfl rfl ?_
  refine Rv rfl rfl rfl (U_assign rfl) rfl rfl ?_
  refine Re rfl ?_
  refine thenQ_n ?_
  refine W_seq rfl ?_
  refine W_seq rfl ?_
  refine W_reg rfl ?_
  refine Rv rfl rfl rfl (U_assign rfl) rfl rfl ?_
  refine Re rfl ?_
  refine thenQ_n ?_
  refine W_block rfl ?_
  refine LoopTo (T' := [(1, .rop [i64 ((n : Nat) : Int), .ros (ks.flatMap lkN) ks.length c] 0), (3, .slice 0 0 n n), (4, i64 ((0 : Nat) : Int))]) (H' := [(0, some (.cells ((bfL n (ks.take 0)).map n64) 3))]) (n := 1) rfl (fun mz_ qz_ => ∃ (k : Nat), k ≤ ks.length ∧ mz_ = ks.length - k ∧ qz_ = ⟨[(1, .rop [i64 ((n : Nat) : Int), .ros (ks.flatMap lkN) ks.length c] 0), (3, .slice 0 0 n n), (4, i64 ((k : Nat) : Int))], [(0, some (.cells ((bfL n (ks.take k)).map n64) 3))], 1, []⟩) ⟨0, (by omega), rfl, rfl⟩ id ⟨eD rfl rfl, e_ rfl rfl, eD rfl rfl, trivial⟩ ⟨rD (mapD (fun _ => rfl) _) rfl rfl, trivial⟩ rfl rfl rfl rfl (fun _ _ => rfl) ?_
  rintro _ _ ⟨k, hi0_0, rfl, rfl⟩
  refine W_seq rfl ?_
  refine W_seq rfl ?_
  refine W_reg rfl ?_
  refine Rv rfl rfl rfl (U_move rfl) rfl rfl ?_
  refine Rv rfl rfl rfl (U_fieldAddrR rfl) rfl rfl ?_
  refine Rv rfl rfl rfl (U_load1 rfl rfl rfl) rfl rfl ?_
  refine Rv rfl rfl rfl (U_lenOf rfl len_ros) rfl rfl ?_
  refine Rv rfl rfl rfl (U_lss rfl rfl) rfl rfl ?_
  refine Re rfl ?_
  refine thenQ_n ?_
  refine WcondP rfl rfl (fun hc0 => ?_) (fun hc0 => ?_)
  · have hck : k < ks.length := by omega
    have hkp := hk _ (List.getElem_mem hck)
    have hbl := bfL_len hv k
    have hbi : ks[k].2 < (bfL n (ks.take k)).length := by omega
    have hbx : (bfL n (ks.take k))[ks[k].2] < 1024 := bfL_lt hv k _ (List.getElem_mem _)
    refine W_skip rfl ?_
    refine thenQ_n ?_
    refine W_seq rfl ?_
    refine W_block rfl ?_
    refine Wdraw rfl (by kernel_rfl) (by kernel_rfl) ?_
    refine Dv rfl rfl rfl (U_move rfl) rfl rfl ?_
    refine Dv rfl rfl rfl (U_fieldAddrR rfl) rfl rfl ?_
    refine Dv rfl rfl rfl (U_load1 rfl rfl rfl) rfl rfl ?_
    refine Dv rfl rfl rfl (U_move rfl) rfl rfl ?_
    have hx1 : k < ks.length := by omega
    refine Dv rfl rfl rfl (U_indexR (j := k) rfl rfl rfl hx1) rfl rfl ?_
    refine Dv rfl rfl rfl (U_indexAR (j := 1) rfl rfl rfl (by decide)) rfl rfl ?_
    refine Dv rfl rfl rfl (U_load1 rfl rfl (lkH1 hx1)) rfl rfl ?_
    have hx2 : ks[k].2 < (bfL n (ks.take k)).length := by omega
    refine Dv rfl rfl rfl (U_indexS (j := ks[k].2) rfl rfl rfl (by omega)) rfl rfl ?_
    refine Dv rfl rfl rfl (U_load1 rfl rfl (getM0 hx2)) rfl rfl ?_
    refine Dv rfl rfl rfl (U_fieldAddrR rfl) rfl rfl ?_
    refine Dv rfl rfl rfl (U_load1 rfl rfl rfl) rfl rfl ?_
    refine Dv rfl rfl rfl (U_move rfl) rfl rfl ?_
    refine Dv rfl rfl rfl (U_indexR (j := k) rfl rfl rfl hx1) rfl rfl ?_
    refine Dv rfl rfl rfl (U_indexAR (j := 0) rfl rfl rfl (by decide)) rfl rfl ?_
    refine Dv rfl rfl rfl (U_load1 rfl rfl (lkH0 hx1)) rfl rfl ?_
    refine Dv rfl rfl rfl (U_shl rfl rfl (by omega) (shlN (n := 1) (i := ks[k].1) (shl63 (by omega)) (by omega))) rfl rfl ?_
    refine Dv rfl rfl rfl (U_or rfl rfl (orN (a := (bfL n (ks.take k))[ks[k].2]) (b := 1 <<< ks[k].1) (lt63 hbx) (lt63 (shl1024 (by omega))))) rfl rfl ?_
    refine Dv rfl rfl rfl (U_indexS (j := ks[k].2) rfl rfl rfl (by omega)) rfl rfl ?_
    refine Dn_ rfl rfl rfl (U_store (n := 1) (cs' := ((bfL n (ks.take k)).set ks[k].2 (((bfL n (ks.take k))[ks[k].2]) ||| (1 <<< ks[k].1))).map n64) rfl rfl rfl rfl rfl (stLt hx2) rfl setM) rfl rfl ?_
    refine Dr.nil rfl ?_
    refine blkQ_n ?_
    refine thenQ_n ?_
    refine W_reg rfl ?_
    refine Rv rfl rfl rfl (U_move rfl) rfl rfl ?_
    refine Rv rfl rfl rfl (U_add rfl rfl (w64e (m := ((k + 1 : Nat) : Int)) (by omega) (by omega) (by omega))) rfl rfl ?_
    refine Rv rfl rfl rfl (U_assign rfl) rfl rfl ?_
    refine Re rfl ?_
    refine thenQ_n ?_
    rw [← getD_eq (d := 0) hbi]
    rw [← bfL_S hck]
    exact againTo (T' := [(1, .rop [i64 ((n : Nat) : Int), .ros (ks.flatMap lkN) ks.length c] 0), (3, .slice 0 0 n n), (4, i64 (((k + 1) : Nat) : Int))]) (H' := [(0, some (.cells ((bfL n (ks.take (k + 1))).map n64) 3))]) (n := 1) (ks.length - (k + 1)) ⟨k + 1, (by omega), rfl, rfl⟩ (by omega) id ⟨eD rfl rfl, e_ rfl rfl, eD rfl rfl, trivial⟩ ⟨rD (mapD (fun _ => rfl) _) rfl rfl, trivial⟩ rfl rfl rfl rfl (fun _ _ => rfl)
  · obtain rfl : k = ks.length := by omega
    rw [List.take_length]
    refine W_exit rfl ?_
    refine thenQ_x ?_
    refine thenQ_x ?_
    refine blkQ_x rfl ?_
    refine thenQ_n ?_
    refine W_seq rfl ?_
    refine W_reg rfl ?_
    refine Rv rfl rfl rfl (U_move rfl) rfl rfl ?_
    refine Rv rfl rfl rfl (U_assign rfl) rfl rfl ?_
    refine Re rfl ?_
    refine thenQ_n ?_
    refine WfrN 0 rfl (mapD (fun _ => rfl) _) (T' := [(2, .ros ((bfL n ks).map n64) n (some n))]) (H' := []) ⟨⟨_, rfl, fr_sl (Nat.le_refl _)⟩, trivial⟩ trivial ?_
    refine WweakT (j := 2) rfl le_cap ?_
    refine W_ret rfl ?_
    exact retL (rlT rfl rl0) rfl rfl
end Go.Proofs.Ythmibifghihdaaa
end

section
namespace Go.Proofs.Ythmibifghihdaaa
set_option maxRecDepth 20000
open Go.AE
theorem ways_p (n : Nat) (ks : List (Nat × Nat)) (c : Option Nat) (hv : VB n ks) : Pure Try.prog 67 [bknA n ks c] (.tup [.ros ((upK n (nxQ n ks) (1 <<< n) 0).map n64) (1 <<< n) none, .ros ((enV n (nxQ n ks) 0).map n64) (1 <<< n) none]) := by
  have hv' := hv
  obtain ⟨hn1, hn, hkl, hk⟩ := hv'
  have h1024 := shl_le hn
  have h2n := shl_ge hn1
  have hx : Nxt (nxQ n ks) := nxR_nxt (bfN n ks)
  have hbl := bfL_len' hv
  have hmin : 1 <<< n - 1 = min (1 <<< n) (full n) := by rw [full_shl]; omega
  refine pure_of_body Try.func67 (c := body Try.f67) rfl (by simp [Try.ntmps67]) fun w0 Φ0 => ?_
  refine W_seq rfl ?_
  refine W_reg rfl ?_
  refine Rv rfl rfl rfl (U_boxF rfl rfl rfl) rfl rfl ?_
  refine Rv rfl rfl rfl (U_assign rfl) rfl rfl ?_
  refine Rv rfl rfl rfl (U_assign rfl) rfl rfl ?_
  refine Re rfl ?_
  refine thenQ_n ?_
  refine W_seq rfl ?_
  refine W_reg rfl ?_
  refine Rv rfl rfl rfl (U_load2 rfl rfl rfl rfl) rfl rfl ?_
  refine Rv rfl rfl rfl (U_call rfl rfl (before_p n ks c hv) rfl) rfl rfl ?_
  refine Rv rfl rfl rfl (U_assign rfl) rfl rfl ?_
  refine Re rfl ?_
  refine thenQ_n ?_
  refine W_seq rfl ?_
  refine W_reg rfl ?_
  refine Rv rfl rfl rfl (U_fieldAddrR rfl) rfl rfl ?_
  refine Rv rfl rfl rfl (U_load1 rfl rfl rfl) rfl rfl ?_
  refine Rv rfl rfl rfl (U_shl rfl rfl (by omega) (shlN (n := 1) (i := n) (shl63' hn) (by omega))) rfl rfl ?_
  refine Rv rfl rfl rfl (U_assign rfl) rfl rfl ?_
  refine Re rfl ?_
  refine thenQ_n ?_
  refine W_seq rfl ?_
  refine Wdraw rfl (by kernel_rfl) (by kernel_rfl) ?_
  refine Dv rfl rfl rfl (U_move rfl) rfl rfl ?_
  refine Da rfl rfl rfl (U_mkL (n := 1 <<< n) (cs' := (List.replicate (1 <<< n) (0 : Nat)).map n64) rfl rfl rfl (by omega) (replM rfl _)) rfl rfl rfl rfl ?_
  refine Dv rfl rfl rfl (U_move rfl) rfl rfl ?_
  refine Da rfl rfl rfl (U_mkL (n := 1 <<< n) (cs' := (List.replicate (1 <<< n) (0 : Nat)).map n64) rfl rfl rfl (by omega) (replM rfl _)) rfl rfl rfl rfl ?_
  refine Dv rfl rfl rfl (U_assign rfl) rfl rfl ?_
  refine Dv rfl rfl rfl (U_assign rfl) rfl rfl ?_
  refine Dr.nil rfl ?_
  refine thenQ_n ?_
  refine W_seq rfl ?_
  refine W_reg rfl ?_
  refine Rv rfl rfl rfl (U_move rfl) rfl rfl ?_
  refine Rv rfl rfl rfl (U_move rfl) rfl rfl ?_
  refine Rv rfl rfl rfl (U_move rfl) rfl rfl ?_
  refine Rv rfl rfl rfl (U_sub rfl rfl (w64e (m := ((1 <<< n - 1 : Nat) : Int)) (by omega) (by omega) (by omega))) rfl rfl ?_
  have hr0 : (List.replicate (1 <<< n) 0).length = 1 <<< n := List.length_replicate
  have hx1 : 0 < (List.replicate (1 <<< n) (0 : Nat)).length := by omega
  refine Rv rfl rfl rfl (U_indexS (j := 0) rfl rfl rfl (by omega)) rfl rfl ?_
  refine Rn rfl rfl rfl (U_store (n := 1) (cs' := ((List.replicate (1 <<< n) (0 : Nat)).set 0 1).map n64) rfl rfl rfl rfl rfl (stLt hx1) rfl setM) rfl ?_
  have hx2 : (1 <<< n - 1) < (List.replicate (1 <<< n) (0 : Nat)).length := by omega
  refine Rv rfl rfl rfl (U_indexS (j := (1 <<< n - 1)) rfl rfl rfl (by omega)) rfl rfl ?_
  refine Rn rfl rfl rfl (U_store (n := 1) (cs' := ((List.replicate (1 <<< n) (0 : Nat)).set (1 <<< n - 1) 1).map n64) rfl rfl rfl rfl rfl (stLt hx2) rfl setM) rfl ?_
  refine Re rfl ?_
  rw [upK_0 (n := n) (nx := (nxQ n ks)), enV_0 (n := n) (nx := (nxQ n ks)), hmin]
  refine thenQ_n ?_
  refine W_seq rfl ?_
  refine W_seq rfl ?_
  refine W_reg rfl ?_
  refine Rv rfl rfl rfl (U_assign rfl) rfl rfl ?_
  refine Re rfl ?_
  refine thenQ_n ?_
  refine W_block rfl ?_
  refine LoopTo (T' := [(1, .rop [i64 ((n : Nat) : Int), .ros (ks.flatMap lkN) ks.length c] 0), (4, .ros ((bfL n ks).map n64) n none), (5, i64 ((1 <<< n : Nat) : Int)), (6, .slice 0 0 (1 <<< n) (1 <<< n)), (7, .slice 1 0 (1 <<< n) (1 <<< n)), (8, i64 ((0 : Nat) : Int))]) (H' := [(0, some (.cells ((upK n (nxQ n ks) 0 0).map n64) 2)), (1, some (.cells ((enV n (nxQ n ks) (min (1 <<< n) (full n))).map n64) 2))]) (n := 2) rfl (fun mz_ qz_ => ∃ (s : Nat), s ≤ 1 <<< n ∧ mz_ = 1 <<< n - s ∧ qz_ = ⟨[(1, .rop [i64 ((n : Nat) : Int), .ros (ks.flatMap lkN) ks.length c] 0), (4, .ros ((bfL n ks).map n64) n none), (5, i64 ((1 <<< n : Nat) : Int)), (6, .slice 0 0 (1 <<< n) (1 <<< n)), (7, .slice 1 0 (1 <<< n) (1 <<< n)), (8, i64 ((s : Nat) : Int))], [(0, some (.cells ((upK n (nxQ n ks) s 0).map n64) 2)), (1, some (.cells ((enV n (nxQ n ks) (min (1 <<< n) (full n))).map n64) 2))], 2, []⟩) ⟨0, (Nat.zero_le _), rfl, rfl⟩ id ⟨eD rfl rfl, eD rfl rfl, eD rfl rfl, e_ rfl rfl, e_ rfl rfl, eD rfl rfl, trivial⟩ ⟨rD (mapD (fun _ => rfl) _) rfl rfl, rD (mapD (fun _ => rfl) _) rfl rfl, trivial⟩ rfl rfl rfl rfl (fun _ _ => rfl) ?_
  rintro _ _ ⟨s, hi0_0, rfl, rfl⟩
  refine W_seq rfl ?_
  refine W_seq rfl ?_
  refine W_reg rfl ?_
  refine Rv rfl rfl rfl (U_move rfl) rfl rfl ?_
  refine Rv rfl rfl rfl (U_move rfl) rfl rfl ?_
  refine Rv rfl rfl rfl (U_lss rfl rfl) rfl rfl ?_
  refine Re rfl ?_
  refine thenQ_n ?_
  refine WcondP rfl rfl (fun hc0 => ?_) (fun hc0 => ?_)
  · have hs : s < 2 ^ n := by rw [← one_shl (n := n)]; omega
    refine W_skip rfl ?_
    refine thenQ_n ?_
    refine W_seq rfl ?_
    refine W_block rfl ?_
    refine W_seq rfl ?_
    refine W_reg rfl ?_
    refine Rv rfl rfl rfl (U_assign rfl) rfl rfl ?_
    refine Re rfl ?_
    refine thenQ_n ?_
    refine W_block rfl ?_
    refine LoopTo (T' := [(1, .rop [i64 ((n : Nat) : Int), .ros (ks.flatMap lkN) ks.length c] 0), (4, .ros ((bfL n ks).map n64) n none), (5, i64 ((1 <<< n : Nat) : Int)), (6, .slice 0 0 (1 <<< n) (1 <<< n)), (7, .slice 1 0 (1 <<< n) (1 <<< n)), (8, i64 ((s : Nat) : Int)), (9, i64 ((0 : Nat) : Int))]) (H' := [(0, some (.cells ((upK n (nxQ n ks) s 0).map n64) 2)), (1, some (.cells ((enV n (nxQ n ks) (min (1 <<< n) (full n))).map n64) 2))]) (n := 2) rfl (fun mz_ qz_ => ∃ (k : Nat), k ≤ n ∧ mz_ = n - k ∧ qz_ = ⟨[(1, .rop [i64 ((n : Nat) : Int), .ros (ks.flatMap lkN) ks.length c] 0), (4, .ros ((bfL n ks).map n64) n none), (5, i64 ((1 <<< n : Nat) : Int)), (6, .slice 0 0 (1 <<< n) (1 <<< n)), (7, .slice 1 0 (1 <<< n) (1 <<< n)), (8, i64 ((s : Nat) : Int)), (9, i64 ((k : Nat) : Int))], [(0, some (.cells ((upK n (nxQ n ks) s k).map n64) 2)), (1, some (.cells ((enV n (nxQ n ks) (min (1 <<< n) (full n))).map n64) 2))], 2, []⟩) ⟨0, (by omega), rfl, rfl⟩ id ⟨eD rfl rfl, eD rfl rfl, eD rfl rfl, e_ rfl rfl, e_ rfl rfl, eD rfl rfl, eD rfl rfl, trivial⟩ ⟨rD (mapD (fun _ => rfl) _) rfl rfl, rD (mapD (fun _ => rfl) _) rfl rfl, trivial⟩ rfl rfl rfl rfl (fun _ _ => rfl) ?_
    rintro _ _ ⟨k, hi1_0, rfl, rfl⟩
    refine W_seq rfl ?_
    refine W_seq rfl ?_
    refine W_reg rfl ?_
    refine Rv rfl rfl rfl (U_move rfl) rfl rfl ?_
    refine Rv rfl rfl rfl (U_fieldAddrR rfl) rfl rfl ?_
    refine Rv rfl rfl rfl (U_load1 rfl rfl rfl) rfl rfl ?_
    refine Rv rfl rfl rfl (U_lss rfl rfl) rfl rfl ?_
    refine Re rfl ?_
    refine thenQ_n ?_
    refine WcondP rfl rfl (fun hc1 => ?_) (fun hc1 => ?_)
    · have hkn : k < n := by omega
      have hbi : k < (bfL n ks).length := by omega
      have hbk : bfN n ks k = (bfL n ks)[k] := getD_eq hbi
      have hbx : (bfL n ks)[k] < 1024 := bfL_lt' hv _ (List.getElem_mem _)
      have h10 : s < 1024 := by omega
      refine W_skip rfl ?_
      refine thenQ_n ?_
      refine W_seq rfl ?_
      refine W_block rfl ?_
      refine W_seq rfl ?_
      refine Wdraw rfl (by kernel_rfl) (by kernel_rfl) ?_
      refine Dv rfl rfl rfl (U_move rfl) rfl rfl ?_
      refine Dv rfl rfl rfl (U_move rfl) rfl rfl ?_
      refine Dv rfl rfl rfl (U_shr rfl rfl (by omega) (shrN (n := s) (i := k) (lt63 h10))) rfl rfl ?_
      refine Dv rfl rfl rfl (U_and rfl rfl (andN (a := s >>> k) (b := 1) (sh63 h10) (by omega))) rfl rfl ?_
      refine Dv rfl rfl rfl (U_eql rfl rfl) rfl rfl ?_
      refine Dv rfl rfl rfl (U_move rfl) rfl rfl ?_
      refine Dsplit (t := 43) rfl (fun hg3 => ?_) (fun hg3 => ?_)
      · rw [hg3]
        have hg3' : (((s >>> k) &&& 1 : Nat) : Int) = 0 := of_decide_eq_true hg3
        have hcg1 := hg3'
        refine Dv rfl rfl rfl (U_move rfl) rfl rfl ?_
        refine Dv rfl rfl rfl (U_move rfl) rfl rfl ?_
        have hx4 : k < (bfL n ks).length := by omega
        refine Dv rfl rfl rfl (U_indexR (j := k) rfl rfl rfl (by omega)) rfl rfl ?_
        refine Dv rfl rfl rfl (U_load1 rfl rfl (getM hx4)) rfl rfl ?_
        refine Dv rfl rfl rfl (U_move rfl) rfl rfl ?_
        refine Dv rfl rfl rfl (U_and rfl rfl (andN (a := (bfL n ks)[k]) (b := s) (lt63 hbx) (lt63 h10))) rfl rfl ?_
        refine Dv rfl rfl rfl (U_move rfl) rfl rfl ?_
        refine Dv rfl rfl rfl (U_move rfl) rfl rfl ?_
        refine Dv rfl rfl rfl (U_indexR (j := k) rfl rfl rfl (by omega)) rfl rfl ?_
        refine Dv rfl rfl rfl (U_load1 rfl rfl (getM hx4)) rfl rfl ?_
        refine Dv rfl rfl rfl (U_eql rfl rfl) rfl rfl ?_
        refine Dv rfl rfl rfl (U_pick_t rfl rfl) rfl rfl ?_
        refine Dr.nil rfl ?_
        refine thenQ_n ?_
        refine WcondP rfl rfl (fun hc2 => ?_) (fun hc2 => ?_)
        · have hnx : nxQ n ks s k = true := by show nxR (bfN n ks) s k = true; unfold nxR; rw [hbk, decide_eq_true hcg1, decide_eq_true hc2]; rfl
          have had : s ||| 1 <<< k < 2 ^ n := ad_lt hs hkn
          have hadl : s ||| 1 <<< k < (upK n (nxQ n ks) s k).length := by rw [upK_len, one_shl (n := n)]; exact had
          have hsl : s < (upK n (nxQ n ks) s k).length := by rw [upK_len, one_shl (n := n)]; exact hs
          have hb1 := upK_le hn hx (show k ≤ n by omega) had hadl
          have hvs : (upK n (nxQ n ks) s k)[s] = up n (nxQ n ks) s := upK_self hx hs hsl
          have hb2 : up n (nxQ n ks) s ≤ 3628800 := up_lt hn hs
          refine Wdraw rfl (by kernel_rfl) (by kernel_rfl) ?_
          refine Dv rfl rfl rfl (U_move rfl) rfl rfl ?_
          refine Dv rfl rfl rfl (U_move rfl) rfl rfl ?_
          refine Dv rfl rfl rfl (U_move rfl) rfl rfl ?_
          refine Dv rfl rfl rfl (U_shl rfl rfl (by omega) (shlN (n := 1) (i := k) (shl63 (by omega)) (by omega))) rfl rfl ?_
          refine Dv rfl rfl rfl (U_or rfl rfl (orN (a := s) (b := 1 <<< k) (lt63 h10) (lt63 (shl1024 (by omega))))) rfl rfl ?_
          have hx5 : (s ||| (1 <<< k)) < (upK n (nxQ n ks) s k).length := by omega
          refine Dv rfl rfl rfl (U_indexS (j := (s ||| (1 <<< k))) rfl rfl rfl (by omega)) rfl rfl ?_
          refine Dv rfl rfl rfl (U_load1 rfl rfl (getM0 hx5)) rfl rfl ?_
          refine Dv rfl rfl rfl (U_move rfl) rfl rfl ?_
          refine Dv rfl rfl rfl (U_move rfl) rfl rfl ?_
          have hx6 : s < (upK n (nxQ n ks) s k).length := by omega
          refine Dv rfl rfl rfl (U_indexS (j := s) rfl rfl rfl (by omega)) rfl rfl ?_
          refine Dv rfl rfl rfl (U_load1 rfl rfl (getM0 hx6)) rfl rfl ?_
          refine Dv rfl rfl rfl (U_add rfl rfl (w64e (m := ((((upK n (nxQ n ks) s k)[(s ||| (1 <<< k))]) + (upK n (nxQ n ks) s k)[s] : Nat) : Int)) (by omega) (by omega) (by omega))) rfl rfl ?_
          refine Dv rfl rfl rfl (U_indexS (j := (s ||| (1 <<< k))) rfl rfl rfl (by omega)) rfl rfl ?_
          refine Dn_ rfl rfl rfl (U_store (n := 1) (cs' := ((upK n (nxQ n ks) s k).set (s ||| (1 <<< k)) (((upK n (nxQ n ks) s k)[(s ||| (1 <<< k))]) + (upK n (nxQ n ks) s k)[s])).map n64) rfl rfl rfl rfl rfl (stLt hx5) rfl setM) rfl rfl ?_
          refine Dr.nil rfl ?_
          refine blkQ_n ?_
          refine thenQ_n ?_
          refine W_reg rfl ?_
          refine Rv rfl rfl rfl (U_move rfl) rfl rfl ?_
          refine Rv rfl rfl rfl (U_add rfl rfl (w64e (m := ((k + 1 : Nat) : Int)) (by omega) (by omega) (by omega))) rfl rfl ?_
          refine Rv rfl rfl rfl (U_assign rfl) rfl rfl ?_
          refine Re rfl ?_
          refine thenQ_n ?_
          first | rw [upK_T hx hs hnx hadl rfl hvs] | rw [upK_F hnx]
          exact againTo (T' := [(1, .rop [i64 ((n : Nat) : Int), .ros (ks.flatMap lkN) ks.length c] 0), (4, .ros ((bfL n ks).map n64) n none), (5, i64 ((1 <<< n : Nat) : Int)), (6, .slice 0 0 (1 <<< n) (1 <<< n)), (7, .slice 1 0 (1 <<< n) (1 <<< n)), (8, i64 ((s : Nat) : Int)), (9, i64 (((k + 1) : Nat) : Int))]) (H' := [(0, some (.cells ((upK n (nxQ n ks) s (k + 1)).map n64) 2)), (1, some (.cells ((enV n (nxQ n ks) (min (1 <<< n) (full n))).map n64) 2))]) (n := 2) (n - (k + 1)) ⟨k + 1, (by omega), rfl, rfl⟩ (by omega) id ⟨eD rfl rfl, eD rfl rfl, eD rfl rfl, e_ rfl rfl, e_ rfl rfl, eD rfl rfl, eD rfl rfl, trivial⟩ ⟨rD (mapD (fun _ => rfl) _) rfl rfl, rD (mapD (fun _ => rfl) _) rfl rfl, trivial⟩ rfl rfl rfl rfl (fun _ _ => rfl)
        · have hnx : nxQ n ks s k = false := by show nxR (bfN n ks) s k = false; unfold nxR; rw [hbk, decide_eq_true hcg1, decide_eq_false hc2]; rfl
          refine W_skip rfl ?_
          refine blkQ_n ?_
          refine thenQ_n ?_
          refine W_reg rfl ?_
          refine Rv rfl rfl rfl (U_move rfl) rfl rfl ?_
          refine Rv rfl rfl rfl (U_add rfl rfl (w64e (m := ((k + 1 : Nat) : Int)) (by omega) (by omega) (by omega))) rfl rfl ?_
          refine Rv rfl rfl rfl (U_assign rfl) rfl rfl ?_
          refine Re rfl ?_
          refine thenQ_n ?_
          first | rw [upK_T hx hs hnx hadl rfl hvs] | rw [upK_F hnx]
          exact againTo (T' := [(1, .rop [i64 ((n : Nat) : Int), .ros (ks.flatMap lkN) ks.length c] 0), (4, .ros ((bfL n ks).map n64) n none), (5, i64 ((1 <<< n : Nat) : Int)), (6, .slice 0 0 (1 <<< n) (1 <<< n)), (7, .slice 1 0 (1 <<< n) (1 <<< n)), (8, i64 ((s : Nat) : Int)), (9, i64 (((k + 1) : Nat) : Int))]) (H' := [(0, some (.cells ((upK n (nxQ n ks) s (k + 1)).map n64) 2)), (1, some (.cells ((enV n (nxQ n ks) (min (1 <<< n) (full n))).map n64) 2))]) (n := 2) (n - (k + 1)) ⟨k + 1, (by omega), rfl, rfl⟩ (by omega) id ⟨eD rfl rfl, eD rfl rfl, eD rfl rfl, e_ rfl rfl, e_ rfl rfl, eD rfl rfl, eD rfl rfl, trivial⟩ ⟨rD (mapD (fun _ => rfl) _) rfl rfl, rD (mapD (fun _ => rfl) _) rfl rfl, trivial⟩ rfl rfl rfl rfl (fun _ _ => rfl)
      · rw [hg3]
        have hg3' : ¬ ((((s >>> k) &&& 1 : Nat) : Int) = 0) := of_decide_eq_false hg3
        have hnx : nxQ n ks s k = false := by show nxR (bfN n ks) s k = false; unfold nxR; rw [decide_eq_false hg3']; rfl
        refine Ds rfl rfl rfl rfl rfl ?_
        refine Ds rfl rfl rfl rfl rfl ?_
        refine Ds rfl rfl rfl rfl rfl ?_
        refine Ds rfl rfl rfl rfl rfl ?_
        refine Ds rfl rfl rfl rfl rfl ?_
        refine Ds rfl rfl rfl rfl rfl ?_
        refine Ds rfl rfl rfl rfl rfl ?_
        refine Ds rfl rfl rfl rfl rfl ?_
        refine Ds rfl rfl rfl rfl rfl ?_
        refine Ds rfl rfl rfl rfl rfl ?_
        refine Ds rfl rfl rfl rfl rfl ?_
        refine Dv rfl rfl rfl (U_pick_f rfl rfl) rfl rfl ?_
        refine Dr.nil rfl ?_
        refine thenQ_n ?_
        refine Wcond rfl rfl (fun h => nomatch h) (fun _ => ?_)
        refine W_skip rfl ?_
        refine blkQ_n ?_
        refine thenQ_n ?_
        refine W_reg rfl ?_
        refine Rv rfl rfl rfl (U_move rfl) rfl rfl ?_
        refine Rv rfl rfl rfl (U_add rfl rfl (w64e (m := ((k + 1 : Nat) : Int)) (by omega) (by omega) (by omega))) rfl rfl ?_
        refine Rv rfl rfl rfl (U_assign rfl) rfl rfl ?_
        refine Re rfl ?_
        refine thenQ_n ?_
        first | rw [upK_T hx hs hnx hadl rfl hvs] | rw [upK_F hnx]
        exact againTo (T' := [(1, .rop [i64 ((n : Nat) : Int), .ros (ks.flatMap lkN) ks.length c] 0), (4, .ros ((bfL n ks).map n64) n none), (5, i64 ((1 <<< n : Nat) : Int)), (6, .slice 0 0 (1 <<< n) (1 <<< n)), (7, .slice 1 0 (1 <<< n) (1 <<< n)), (8, i64 ((s : Nat) : Int)), (9, i64 (((k + 1) : Nat) : Int))]) (H' := [(0, some (.cells ((upK n (nxQ n ks) s (k + 1)).map n64) 2)), (1, some (.cells ((enV n (nxQ n ks) (min (1 <<< n) (full n))).map n64) 2))]) (n := 2) (n - (k + 1)) ⟨k + 1, (by omega), rfl, rfl⟩ (by omega) id ⟨eD rfl rfl, eD rfl rfl, eD rfl rfl, e_ rfl rfl, e_ rfl rfl, eD rfl rfl, eD rfl rfl, trivial⟩ ⟨rD (mapD (fun _ => rfl) _) rfl rfl, rD (mapD (fun _ => rfl) _) rfl rfl, trivial⟩ rfl rfl rfl rfl (fun _ _ => rfl)
    · obtain rfl : n = k := by omega
      rw [upK_all hx]
      refine W_exit rfl ?_
      refine thenQ_x ?_
      refine thenQ_x ?_
      refine blkQ_x rfl ?_
      refine blkQ_n ?_
      refine thenQ_n ?_
      refine W_reg rfl ?_
      refine Rv rfl rfl rfl (U_move rfl) rfl rfl ?_
      refine Rv rfl rfl rfl (U_add rfl rfl (w64e (m := ((s + 1 : Nat) : Int)) (by omega) (by omega) (by omega))) rfl rfl ?_
      refine Rv rfl rfl rfl (U_assign rfl) rfl rfl ?_
      refine Re rfl ?_
      refine thenQ_n ?_
      exact againTo (T' := [(1, .rop [i64 ((n : Nat) : Int), .ros (ks.flatMap lkN) ks.length c] 0), (4, .ros ((bfL n ks).map n64) n none), (5, i64 ((1 <<< n : Nat) : Int)), (6, .slice 0 0 (1 <<< n) (1 <<< n)), (7, .slice 1 0 (1 <<< n) (1 <<< n)), (8, i64 (((s + 1) : Nat) : Int))]) (H' := [(0, some (.cells ((upK n (nxQ n ks) (s + 1) 0).map n64) 2)), (1, some (.cells ((enV n (nxQ n ks) (min (1 <<< n) (full n))).map n64) 2))]) (n := 2) (1 <<< n - (s + 1)) ⟨s + 1, (by omega), rfl, rfl⟩ (by omega) id ⟨eD rfl rfl, eD rfl rfl, eD rfl rfl, e_ rfl rfl, e_ rfl rfl, eD rfl rfl, trivial⟩ ⟨rD (mapD (fun _ => rfl) _) rfl rfl, rD (mapD (fun _ => rfl) _) rfl rfl, trivial⟩ rfl rfl rfl rfl (fun _ _ => rfl)
  · obtain rfl : s = 1 <<< n := by omega
    refine W_exit rfl ?_
    refine thenQ_x ?_
    refine thenQ_x ?_
    refine blkQ_x rfl ?_
    refine thenQ_n ?_
    refine W_seq rfl ?_
    refine W_seq rfl ?_
    refine W_reg rfl ?_
    refine Rv rfl rfl rfl (U_move rfl) rfl rfl ?_
    refine Rv rfl rfl rfl (U_sub rfl rfl (w64 (by omega) (by omega))) rfl rfl ?_
    refine Rv rfl rfl rfl (U_assign rfl) rfl rfl ?_
    refine Re rfl ?_
    refine thenQ_n ?_
    refine W_block rfl ?_
    refine LoopTo (T' := [(1, .rop [i64 ((n : Nat) : Int), .ros (ks.flatMap lkN) ks.length c] 0), (4, .ros ((bfL n ks).map n64) n none), (6, .slice 0 0 (1 <<< n) (1 <<< n)), (7, .slice 1 0 (1 <<< n) (1 <<< n)), (10, i64 ((((1 <<< n) : Nat) : Int) - 1))]) (H' := [(0, some (.cells ((upK n (nxQ n ks) (1 <<< n) 0).map n64) 2)), (1, some (.cells ((enV n (nxQ n ks) (min (1 <<< n) (full n))).map n64) 2))]) (n := 2) rfl (fun mz_ qz_ => ∃ (s : Nat), s ≤ 1 <<< n ∧ mz_ = 0 + s ∧ qz_ = ⟨[(1, .rop [i64 ((n : Nat) : Int), .ros (ks.flatMap lkN) ks.length c] 0), (4, .ros ((bfL n ks).map n64) n none), (6, .slice 0 0 (1 <<< n) (1 <<< n)), (7, .slice 1 0 (1 <<< n) (1 <<< n)), (10, i64 (((s : Nat) : Int) - 1))], [(0, some (.cells ((upK n (nxQ n ks) (1 <<< n) 0).map n64) 2)), (1, some (.cells ((enV n (nxQ n ks) (min s (full n))).map n64) 2))], 2, []⟩) ⟨1 <<< n, (Nat.le_refl _), rfl, rfl⟩ id ⟨eD rfl rfl, eD rfl rfl, e_ rfl rfl, e_ rfl rfl, eD rfl rfl, trivial⟩ ⟨rD (mapD (fun _ => rfl) _) rfl rfl, rD (mapD (fun _ => rfl) _) rfl rfl, trivial⟩ rfl rfl rfl rfl (fun _ _ => rfl) ?_
    rintro _ _ ⟨s, hi2_0, rfl, rfl⟩
    refine W_seq rfl ?_
    refine W_seq rfl ?_
    refine W_reg rfl ?_
    refine Rv rfl rfl rfl (U_move rfl) rfl rfl ?_
    refine Rv rfl rfl rfl (U_geq rfl rfl) rfl rfl ?_
    refine Re rfl ?_
    refine thenQ_n ?_
    refine WcondP rfl rfl (fun hc3 => ?_) (fun hc3 => ?_)
    · obtain ⟨m, rfl⟩ : ∃ m, s = m + 1 := ⟨s - 1, by omega⟩
      have hm1 : ((m + 1 : Nat) : Int) - 1 = ((m : Nat) : Int) := by omega
      rw [hm1]
      have hm : m < 2 ^ n := by rw [← one_shl (n := n)]; omega
      rw [← enK_0 (n := n) (nx := (nxQ n ks)) hm]
      refine W_skip rfl ?_
      refine thenQ_n ?_
      refine W_seq rfl ?_
      refine W_block rfl ?_
      refine W_seq rfl ?_
      refine W_reg rfl ?_
      refine Rv rfl rfl rfl (U_assign rfl) rfl rfl ?_
      refine Re rfl ?_
      refine thenQ_n ?_
      refine W_block rfl ?_
      refine LoopTo (T' := [(1, .rop [i64 ((n : Nat) : Int), .ros (ks.flatMap lkN) ks.length c] 0), (4, .ros ((bfL n ks).map n64) n none), (6, .slice 0 0 (1 <<< n) (1 <<< n)), (7, .slice 1 0 (1 <<< n) (1 <<< n)), (10, i64 ((m : Nat) : Int)), (11, i64 ((0 : Nat) : Int))]) (H' := [(0, some (.cells ((upK n (nxQ n ks) (1 <<< n) 0).map n64) 2)), (1, some (.cells ((enK n (nxQ n ks) m 0).map n64) 2))]) (n := 2) rfl (fun mz_ qz_ => ∃ (k : Nat), k ≤ n ∧ mz_ = n - k ∧ qz_ = ⟨[(1, .rop [i64 ((n : Nat) : Int), .ros (ks.flatMap lkN) ks.length c] 0), (4, .ros ((bfL n ks).map n64) n none), (6, .slice 0 0 (1 <<< n) (1 <<< n)), (7, .slice 1 0 (1 <<< n) (1 <<< n)), (10, i64 ((m : Nat) : Int)), (11, i64 ((k : Nat) : Int))], [(0, some (.cells ((upK n (nxQ n ks) (1 <<< n) 0).map n64) 2)), (1, some (.cells ((enK n (nxQ n ks) m k).map n64) 2))], 2, []⟩) ⟨0, (by omega), rfl, rfl⟩ id ⟨eD rfl rfl, eD rfl rfl, e_ rfl rfl, e_ rfl rfl, eD rfl rfl, eD rfl rfl, trivial⟩ ⟨rD (mapD (fun _ => rfl) _) rfl rfl, rD (mapD (fun _ => rfl) _) rfl rfl, trivial⟩ rfl rfl rfl rfl (fun _ _ => rfl) ?_
      rintro _ _ ⟨k, hi3_0, rfl, rfl⟩
      refine W_seq rfl ?_
      refine W_seq rfl ?_
      refine W_reg rfl ?_
      refine Rv rfl rfl rfl (U_move rfl) rfl rfl ?_
      refine Rv rfl rfl rfl (U_fieldAddrR rfl) rfl rfl ?_
      refine Rv rfl rfl rfl (U_load1 rfl rfl rfl) rfl rfl ?_
      refine Rv rfl rfl rfl (U_lss rfl rfl) rfl rfl ?_
      refine Re rfl ?_
      refine thenQ_n ?_
      refine WcondP rfl rfl (fun hc4 => ?_) (fun hc4 => ?_)
      · have hkn : k < n := by omega
        have hbi : k < (bfL n ks).length := by omega
        have hbk : bfN n ks k = (bfL n ks)[k] := getD_eq hbi
        have hbx : (bfL n ks)[k] < 1024 := bfL_lt' hv _ (List.getElem_mem _)
        have h10 : m < 1024 := by omega
        refine W_skip rfl ?_
        refine thenQ_n ?_
        refine W_seq rfl ?_
        refine W_block rfl ?_
        refine W_seq rfl ?_
        refine Wdraw rfl (by kernel_rfl) (by kernel_rfl) ?_
        refine Dv rfl rfl rfl (U_move rfl) rfl rfl ?_
        refine Dv rfl rfl rfl (U_move rfl) rfl rfl ?_
        refine Dv rfl rfl rfl (U_shr rfl rfl (by omega) (shrN (n := m) (i := k) (lt63 h10))) rfl rfl ?_
        refine Dv rfl rfl rfl (U_and rfl rfl (andN (a := m >>> k) (b := 1) (sh63 h10) (by omega))) rfl rfl ?_
        refine Dv rfl rfl rfl (U_eql rfl rfl) rfl rfl ?_
        refine Dv rfl rfl rfl (U_move rfl) rfl rfl ?_
        refine Dsplit (t := 86) rfl (fun hg7 => ?_) (fun hg7 => ?_)
        · rw [hg7]
          have hg7' : (((m >>> k) &&& 1 : Nat) : Int) = 0 := of_decide_eq_true hg7
          have hcg1 := hg7'
          refine Dv rfl rfl rfl (U_move rfl) rfl rfl ?_
          refine Dv rfl rfl rfl (U_move rfl) rfl rfl ?_
          have hx8 : k < (bfL n ks).length := by omega
          refine Dv rfl rfl rfl (U_indexR (j := k) rfl rfl rfl (by omega)) rfl rfl ?_
          refine Dv rfl rfl rfl (U_load1 rfl rfl (getM hx8)) rfl rfl ?_
          refine Dv rfl rfl rfl (U_move rfl) rfl rfl ?_
          refine Dv rfl rfl rfl (U_and rfl rfl (andN (a := (bfL n ks)[k]) (b := m) (lt63 hbx) (lt63 h10))) rfl rfl ?_
          refine Dv rfl rfl rfl (U_move rfl) rfl rfl ?_
          refine Dv rfl rfl rfl (U_move rfl) rfl rfl ?_
          refine Dv rfl rfl rfl (U_indexR (j := k) rfl rfl rfl (by omega)) rfl rfl ?_
          refine Dv rfl rfl rfl (U_load1 rfl rfl (getM hx8)) rfl rfl ?_
          refine Dv rfl rfl rfl (U_eql rfl rfl) rfl rfl ?_
          refine Dv rfl rfl rfl (U_pick_t rfl rfl) rfl rfl ?_
          refine Dr.nil rfl ?_
          refine thenQ_n ?_
          refine WcondP rfl rfl (fun hc5 => ?_) (fun hc5 => ?_)
          · have hnx : nxQ n ks m k = true := by show nxR (bfN n ks) m k = true; unfold nxR; rw [hbk, decide_eq_true hcg1, decide_eq_true hc5]; rfl
            have had : m ||| 1 <<< k < 2 ^ n := ad_lt hm hkn
            have hgt : m < m ||| 1 <<< k := ad_gt (hx _ _ hnx)
            have hne : m ≠ full n := by { rintro rfl; rw [nx_full hx hkn] at hnx; cases hnx }
            have hadl : m ||| 1 <<< k < (enK n (nxQ n ks) m k).length := by rw [enK_len, one_shl (n := n)]; exact had
            have hml : m < (enK n (nxQ n ks) m k).length := by rw [enK_len, one_shl (n := n)]; exact hm
            have hu : (enK n (nxQ n ks) m k)[m] = enR n (nxQ n ks) m k := enK_at1 hml
            have hv_ : (enK n (nxQ n ks) m k)[m ||| 1 <<< k] = en n (nxQ n ks) (ad m k) := enK_at2 hgt hadl
            have hb1 := enR_le hn hx hm (show k ≤ n by omega)
            have hb2 : en n (nxQ n ks) (ad m k) ≤ 3628800 := en_lt hx hn had
            refine Wdraw rfl (by kernel_rfl) (by kernel_rfl) ?_
            refine Dv rfl rfl rfl (U_move rfl) rfl rfl ?_
            refine Dv rfl rfl rfl (U_move rfl) rfl rfl ?_
            have hx9 : m < (enK n (nxQ n ks) m k).length := by omega
            refine Dv rfl rfl rfl (U_indexS (j := m) rfl rfl rfl (by omega)) rfl rfl ?_
            refine Dv rfl rfl rfl (U_load1 rfl rfl (getM0 hx9)) rfl rfl ?_
            refine Dv rfl rfl rfl (U_move rfl) rfl rfl ?_
            refine Dv rfl rfl rfl (U_move rfl) rfl rfl ?_
            refine Dv rfl rfl rfl (U_move rfl) rfl rfl ?_
            refine Dv rfl rfl rfl (U_shl rfl rfl (by omega) (shlN (n := 1) (i := k) (shl63 (by omega)) (by omega))) rfl rfl ?_
            refine Dv rfl rfl rfl (U_or rfl rfl (orN (a := m) (b := 1 <<< k) (lt63 h10) (lt63 (shl1024 (by omega))))) rfl rfl ?_
            have hx10 : (m ||| (1 <<< k)) < (enK n (nxQ n ks) m k).length := by omega
            refine Dv rfl rfl rfl (U_indexS (j := (m ||| (1 <<< k))) rfl rfl rfl (by omega)) rfl rfl ?_
            refine Dv rfl rfl rfl (U_load1 rfl rfl (getM0 hx10)) rfl rfl ?_
            refine Dv rfl rfl rfl (U_add rfl rfl (w64e (m := (((enK n (nxQ n ks) m k)[m] + ((enK n (nxQ n ks) m k)[(m ||| (1 <<< k))]) : Nat) : Int)) (by omega) (by omega) (by omega))) rfl rfl ?_
            refine Dv rfl rfl rfl (U_indexS (j := m) rfl rfl rfl (by omega)) rfl rfl ?_
            refine Dn_ rfl rfl rfl (U_store (n := 1) (cs' := ((enK n (nxQ n ks) m k).set m ((enK n (nxQ n ks) m k)[m] + ((enK n (nxQ n ks) m k)[(m ||| (1 <<< k))]))).map n64) rfl rfl rfl rfl rfl (stLt hx9) rfl setM) rfl rfl ?_
            refine Dr.nil rfl ?_
            refine blkQ_n ?_
            refine thenQ_n ?_
            refine W_reg rfl ?_
            refine Rv rfl rfl rfl (U_move rfl) rfl rfl ?_
            refine Rv rfl rfl rfl (U_add rfl rfl (w64e (m := ((k + 1 : Nat) : Int)) (by omega) (by omega) (by omega))) rfl rfl ?_
            refine Rv rfl rfl rfl (U_assign rfl) rfl rfl ?_
            refine Re rfl ?_
            refine thenQ_n ?_
            first | rw [enK_T hne hnx hu hv_] | rw [enK_F hnx]
            exact againTo (T' := [(1, .rop [i64 ((n : Nat) : Int), .ros (ks.flatMap lkN) ks.length c] 0), (4, .ros ((bfL n ks).map n64) n none), (6, .slice 0 0 (1 <<< n) (1 <<< n)), (7, .slice 1 0 (1 <<< n) (1 <<< n)), (10, i64 ((m : Nat) : Int)), (11, i64 (((k + 1) : Nat) : Int))]) (H' := [(0, some (.cells ((upK n (nxQ n ks) (1 <<< n) 0).map n64) 2)), (1, some (.cells ((enK n (nxQ n ks) m (k + 1)).map n64) 2))]) (n := 2) (n - (k + 1)) ⟨k + 1, (by omega), rfl, rfl⟩ (by omega) id ⟨eD rfl rfl, eD rfl rfl, e_ rfl rfl, e_ rfl rfl, eD rfl rfl, eD rfl rfl, trivial⟩ ⟨rD (mapD (fun _ => rfl) _) rfl rfl, rD (mapD (fun _ => rfl) _) rfl rfl, trivial⟩ rfl rfl rfl rfl (fun _ _ => rfl)
          · have hnx : nxQ n ks m k = false := by show nxR (bfN n ks) m k = false; unfold nxR; rw [hbk, decide_eq_true hcg1, decide_eq_false hc5]; rfl
            refine W_skip rfl ?_
            refine blkQ_n ?_
            refine thenQ_n ?_
            refine W_reg rfl ?_
            refine Rv rfl rfl rfl (U_move rfl) rfl rfl ?_
            refine Rv rfl rfl rfl (U_add rfl rfl (w64e (m := ((k + 1 : Nat) : Int)) (by omega) (by omega) (by omega))) rfl rfl ?_
            refine Rv rfl rfl rfl (U_assign rfl) rfl rfl ?_
            refine Re rfl ?_
            refine thenQ_n ?_
            first | rw [enK_T hne hnx hu hv_] | rw [enK_F hnx]
            exact againTo (T' := [(1, .rop [i64 ((n : Nat) : Int), .ros (ks.flatMap lkN) ks.length c] 0), (4, .ros ((bfL n ks).map n64) n none), (6, .slice 0 0 (1 <<< n) (1 <<< n)), (7, .slice 1 0 (1 <<< n) (1 <<< n)), (10, i64 ((m : Nat) : Int)), (11, i64 (((k + 1) : Nat) : Int))]) (H' := [(0, some (.cells ((upK n (nxQ n ks) (1 <<< n) 0).map n64) 2)), (1, some (.cells ((enK n (nxQ n ks) m (k + 1)).map n64) 2))]) (n := 2) (n - (k + 1)) ⟨k + 1, (by omega), rfl, rfl⟩ (by omega) id ⟨eD rfl rfl, eD rfl rfl, e_ rfl rfl, e_ rfl rfl, eD rfl rfl, eD rfl rfl, trivial⟩ ⟨rD (mapD (fun _ => rfl) _) rfl rfl, rD (mapD (fun _ => rfl) _) rfl rfl, trivial⟩ rfl rfl rfl rfl (fun _ _ => rfl)
        · rw [hg7]
          have hg7' : ¬ ((((m >>> k) &&& 1 : Nat) : Int) = 0) := of_decide_eq_false hg7
          have hnx : nxQ n ks m k = false := by show nxR (bfN n ks) m k = false; unfold nxR; rw [decide_eq_false hg7']; rfl
          refine Ds rfl rfl rfl rfl rfl ?_
          refine Ds rfl rfl rfl rfl rfl ?_
          refine Ds rfl rfl rfl rfl rfl ?_
          refine Ds rfl rfl rfl rfl rfl ?_
          refine Ds rfl rfl rfl rfl rfl ?_
          refine Ds rfl rfl rfl rfl rfl ?_
          refine Ds rfl rfl rfl rfl rfl ?_
          refine Ds rfl rfl rfl rfl rfl ?_
          refine Ds rfl rfl rfl rfl rfl ?_
          refine Ds rfl rfl rfl rfl rfl ?_
          refine Ds rfl rfl rfl rfl rfl ?_
          refine Dv rfl rfl rfl (U_pick_f rfl rfl) rfl rfl ?_
          refine Dr.nil rfl ?_
          refine thenQ_n ?_
          refine Wcond rfl rfl (fun h => nomatch h) (fun _ => ?_)
          refine W_skip rfl ?_
          refine blkQ_n ?_
          refine thenQ_n ?_
          refine W_reg rfl ?_
          refine Rv rfl rfl rfl (U_move rfl) rfl rfl ?_
          refine Rv rfl rfl rfl (U_add rfl rfl (w64e (m := ((k + 1 : Nat) : Int)) (by omega) (by omega) (by omega))) rfl rfl ?_
          refine Rv rfl rfl rfl (U_assign rfl) rfl rfl ?_
          refine Re rfl ?_
          refine thenQ_n ?_
          first | rw [enK_T hne hnx hu hv_] | rw [enK_F hnx]
          exact againTo (T' := [(1, .rop [i64 ((n : Nat) : Int), .ros (ks.flatMap lkN) ks.length c] 0), (4, .ros ((bfL n ks).map n64) n none), (6, .slice 0 0 (1 <<< n) (1 <<< n)), (7, .slice 1 0 (1 <<< n) (1 <<< n)), (10, i64 ((m : Nat) : Int)), (11, i64 (((k + 1) : Nat) : Int))]) (H' := [(0, some (.cells ((upK n (nxQ n ks) (1 <<< n) 0).map n64) 2)), (1, some (.cells ((enK n (nxQ n ks) m (k + 1)).map n64) 2))]) (n := 2) (n - (k + 1)) ⟨k + 1, (by omega), rfl, rfl⟩ (by omega) id ⟨eD rfl rfl, eD rfl rfl, e_ rfl rfl, e_ rfl rfl, eD rfl rfl, eD rfl rfl, trivial⟩ ⟨rD (mapD (fun _ => rfl) _) rfl rfl, rD (mapD (fun _ => rfl) _) rfl rfl, trivial⟩ rfl rfl rfl rfl (fun _ _ => rfl)
      · obtain rfl : n = k := by omega
        rw [enK_all hx hm]
        refine W_exit rfl ?_
        refine thenQ_x ?_
        refine thenQ_x ?_
        refine blkQ_x rfl ?_
        refine blkQ_n ?_
        refine thenQ_n ?_
        refine W_reg rfl ?_
        refine Rv rfl rfl rfl (U_move rfl) rfl rfl ?_
        refine Rv rfl rfl rfl (U_sub rfl rfl (w64 (by omega) (by omega))) rfl rfl ?_
        refine Rv rfl rfl rfl (U_assign rfl) rfl rfl ?_
        refine Re rfl ?_
        refine thenQ_n ?_
        exact againTo (T' := [(1, .rop [i64 ((n : Nat) : Int), .ros (ks.flatMap lkN) ks.length c] 0), (4, .ros ((bfL n ks).map n64) n none), (6, .slice 0 0 (1 <<< n) (1 <<< n)), (7, .slice 1 0 (1 <<< n) (1 <<< n)), (10, i64 (((m : Nat) : Int) - 1))]) (H' := [(0, some (.cells ((upK n (nxQ n ks) (1 <<< n) 0).map n64) 2)), (1, some (.cells ((enV n (nxQ n ks) (min m (full n))).map n64) 2))]) (n := 2) (0 + m) ⟨m, (by omega), rfl, rfl⟩ (by omega) id ⟨eD rfl rfl, eD rfl rfl, e_ rfl rfl, e_ rfl rfl, eD rfl rfl, trivial⟩ ⟨rD (mapD (fun _ => rfl) _) rfl rfl, rD (mapD (fun _ => rfl) _) rfl rfl, trivial⟩ rfl rfl rfl rfl (fun _ _ => rfl)
    · obtain rfl : s = 0 := by omega
      rw [Nat.zero_min]
      refine W_exit rfl ?_
      refine thenQ_x ?_
      refine thenQ_x ?_
      refine blkQ_x rfl ?_
      refine thenQ_n ?_
      refine W_seq rfl ?_
      refine W_reg rfl ?_
      refine Rv rfl rfl rfl (U_move rfl) rfl rfl ?_
      refine Rv rfl rfl rfl (U_move rfl) rfl rfl ?_
      refine Rv rfl rfl rfl (U_assign rfl) rfl rfl ?_
      refine Rv rfl rfl rfl (U_assign rfl) rfl rfl ?_
      refine Re rfl ?_
      refine thenQ_n ?_
      refine WfrN 0 rfl (mapD (fun _ => rfl) _) (T' := [(2, .ros ((upK n (nxQ n ks) (1 <<< n) 0).map n64) (1 <<< n) (some (1 <<< n))), (3, .slice 1 0 (1 <<< n) (1 <<< n))]) (H' := [(1, some (.cells ((enV n (nxQ n ks) 0).map n64) 2))]) ⟨⟨_, rfl, fr_sl (Nat.le_refl _)⟩, ⟨_, rfl, rfl⟩, trivial⟩ ⟨⟨rfl, rFD (mapD (fun _ => rfl) _) rfl⟩, trivial⟩ ?_
      refine WfrN 1 rfl (mapD (fun _ => rfl) _) (T' := [(2, .ros ((upK n (nxQ n ks) (1 <<< n) 0).map n64) (1 <<< n) (some (1 <<< n))), (3, .ros ((enV n (nxQ n ks) 0).map n64) (1 <<< n) (some (1 <<< n)))]) (H' := []) ⟨⟨_, rfl, rfl⟩, ⟨_, rfl, fr_sl (Nat.le_refl _)⟩, trivial⟩ trivial ?_
      refine WweakT (j := 2) rfl le_cap ?_
      refine WweakT (j := 3) rfl le_cap ?_
      refine W_ret rfl ?_
      exact retL (rlT rfl (rlT rfl rl0)) rfl rfl
end Go.Proofs.Ythmibifghihdaaa
end

section
namespace Go.Proofs.Ythmibifghihdaaa
set_option maxRecDepth 20000
open Go.AE
theorem countOf_p (n : Nat) (ks : List (Nat × Nat)) (c : Option Nat) (hv : VB n ks) : Pure Try.prog 70 [bknA n ks c] (i64 ((cntQ n ks : Nat) : Int)) := by
  have hv' := hv
  obtain ⟨hn1, hn, hkl, hk⟩ := hv'
  have h1024 := shl_le hn
  have h2n := shl_ge hn1
  refine pure_of_body Try.func70 (c := body Try.f70) rfl (by simp [Try.ntmps70]) fun w0 Φ0 => ?_
  refine W_seq rfl ?_
  refine W_reg rfl ?_
  refine Rv rfl rfl rfl (U_boxF rfl rfl rfl) rfl rfl ?_
  refine Rv rfl rfl rfl (U_assign rfl) rfl rfl ?_
  refine Re rfl ?_
  refine thenQ_n ?_
  refine W_seq rfl ?_
  refine W_reg rfl ?_
  refine Rv rfl rfl rfl (U_load2 rfl rfl rfl rfl) rfl rfl ?_
  refine Rv rfl rfl rfl (U_call rfl rfl (ways_p n ks c hv) rfl) rfl rfl ?_
  refine Rv rfl rfl rfl (U_move rfl) rfl rfl ?_
  refine Rv rfl rfl rfl (U_extract rfl rfl) rfl rfl ?_
  refine Rv rfl rfl rfl (U_extract rfl rfl) rfl rfl ?_
  refine Rv rfl rfl rfl (U_assign rfl) rfl rfl ?_
  refine Rv rfl rfl rfl (U_assign rfl) rfl rfl ?_
  refine Re rfl ?_
  refine thenQ_n ?_
  refine W_seq rfl ?_
  refine W_reg rfl ?_
  refine Rv rfl rfl rfl (U_move rfl) rfl rfl ?_
  refine Rv rfl rfl rfl (U_move rfl) rfl rfl ?_
  refine Rv rfl rfl rfl (U_lenOf rfl len_ros) rfl rfl ?_
  refine Rv rfl rfl rfl (U_sub rfl rfl (w64e (m := ((1 <<< n - 1 : Nat) : Int)) (by omega) (by omega) (by omega))) rfl rfl ?_
  have hul : (upK n (nxQ n ks) (1 <<< n) 0).length = 1 <<< n := upK_len
  have hx1 : (1 <<< n - 1) < (upK n (nxQ n ks) (1 <<< n) 0).length := by omega
  refine Rv rfl rfl rfl (U_indexR (j := (1 <<< n - 1)) rfl rfl rfl (by omega)) rfl rfl ?_
  refine Rv rfl rfl rfl (U_load1 rfl rfl (getM hx1)) rfl rfl ?_
  refine Rv rfl rfl rfl (U_assign rfl) rfl rfl ?_
  refine Re rfl ?_
  refine thenQ_n ?_
  refine W_ret rfl ?_
  exact retL (rlT rfl rl0) (by first | rfl | (simp only [packA]; rw [upK_end (show 1 <<< n - 1 < 2 ^ n by rw [← one_shl (n := n)]; omega), ← cnt_R hv, full_shl]; first | done | rfl)) rfl
theorem ruledR_e (b : Bk) (c : Option Nat) (hl : b.ls.length ≤ 1000000) (hE : chkB b ≠ 0) (l : List Int) (d : Option Nat) (hll : l.length ≤ 1000000) : Pure Try.prog 65 [bookA b c, intsA l d] (i64 (chkB b)) := by
  refine pure_of_body Try.func65 (c := body Try.f65) rfl (by simp [Try.ntmps65]) fun w0 Φ0 => ?_
  refine W_seq rfl ?_
  refine W_reg rfl ?_
  refine Rv rfl rfl rfl (U_boxF rfl rfl rfl) rfl rfl ?_
  refine Rv rfl rfl rfl (U_assign rfl) rfl rfl ?_
  refine Re rfl ?_
  refine thenQ_n ?_
  refine W_seq rfl ?_
  refine W_seq rfl ?_
  refine W_reg rfl ?_
  refine Rv rfl rfl rfl (U_load2 rfl rfl rfl rfl) rfl rfl ?_
  refine Rv rfl rfl rfl (U_call rfl rfl (chkBR_p b c hl) rfl) rfl rfl ?_
  refine Rv rfl rfl rfl (U_neq rfl rfl) rfl rfl ?_
  refine Re rfl ?_
  refine thenQ_n ?_
  refine WcondP rfl rfl (fun hc0 => ?_) (fun hc0 => absurd (hE) hc0)
  refine W_seq rfl ?_
  refine W_reg rfl ?_
  refine Rv rfl rfl rfl (U_load2 rfl rfl rfl rfl) rfl rfl ?_
  refine Rv rfl rfl rfl (U_call rfl rfl (chkBR_p b c hl) rfl) rfl rfl ?_
  refine Rv rfl rfl rfl (U_assign rfl) rfl rfl ?_
  refine Re rfl ?_
  refine thenQ_n ?_
  refine W_ret rfl ?_
  refine thenQ_r ?_
  exact retL (rlT rfl rl0) rfl rfl
theorem inL_at {n : Nat} {l : List Int} (h : inL 0 (((n : Nat) : Int) - 1) l = true) {j : Nat} (hj : j < l.length) : staB (n : Nat) l[j] = true := by
  rw [inL, List.all_eq_true] at h
  have := h _ (List.getElem_mem hj)
  simp at this; simp [staB]; omega
theorem ruledR_CG (n : Nat) (ks : List (Nat × Nat)) (c : Option Nat) (hv : VB n ks) (h40 : ks.length ≤ 40) (l : List Int) (d : Option Nat) (hll : l.length ≤ 1000000) (hin : inL 0 (((n : Nat) : Int) - 1) l = true) (h2 : ¬ l.length = 2) (ha : Acy n ks) : Pure Try.prog 65 [bknA n ks c, intsA l d] (i64 0) := by
  have hv' := hv
  obtain ⟨hn1, hn, hkl, hk⟩ := hv'
  have hk2 := vb_lt hv
  refine pure_of_body Try.func65 (c := body Try.f65) rfl (by simp [Try.ntmps65]) fun w0 Φ0 => ?_
  refine W_seq rfl ?_
  refine W_reg rfl ?_
  refine Rv rfl rfl rfl (U_boxF rfl rfl rfl) rfl rfl ?_
  refine Rv rfl rfl rfl (U_assign rfl) rfl rfl ?_
  refine Re rfl ?_
  refine thenQ_n ?_
  refine W_seq rfl ?_
  refine W_seq rfl ?_
  refine W_reg rfl ?_
  refine Rv rfl rfl rfl (U_load2 rfl rfl rfl rfl) rfl rfl ?_
  refine Rv rfl rfl rfl (U_call rfl rfl (chkBRG_p n ks c hv h40) rfl) rfl rfl ?_
  refine Rv rfl rfl rfl (U_neq rfl rfl) rfl rfl ?_
  refine Re rfl ?_
  refine thenQ_n ?_
  refine WcondP rfl rfl (fun h => absurd h (by decide)) (fun _ => ?_)
  refine W_skip rfl ?_
  refine thenQ_n ?_
  refine W_seq rfl ?_
  refine W_seq rfl ?_
  refine W_reg rfl ?_
  refine Rv rfl rfl rfl (U_assign rfl) rfl rfl ?_
  refine Re rfl ?_
  refine thenQ_n ?_
  refine W_block rfl ?_
  refine LoopTo (T' := [(1, .ros (l.map i64) l.length d), (2, .rop [i64 ((n : Nat) : Int), .ros (ks.flatMap lkN) ks.length c] 0), (5, i64 ((0 : Nat) : Int))]) (H' := []) (n := 0) rfl (fun mz_ qz_ => ∃ (k : Nat), k ≤ l.length ∧ mz_ = l.length - k ∧ qz_ = ⟨[(1, .ros (l.map i64) l.length d), (2, .rop [i64 ((n : Nat) : Int), .ros (ks.flatMap lkN) ks.length c] 0), (5, i64 ((k : Nat) : Int))], [], 0, []⟩) ⟨0, (by omega), rfl, rfl⟩ id ⟨eD rfl rfl, eD rfl rfl, eD rfl rfl, trivial⟩ trivial rfl rfl rfl rfl (fun _ _ => rfl) ?_
  rintro _ _ ⟨k, hi0_0, rfl, rfl⟩
  refine W_seq rfl ?_
  refine W_seq rfl ?_
  refine W_reg rfl ?_
  refine Rv rfl rfl rfl (U_move rfl) rfl rfl ?_
  refine Rv rfl rfl rfl (U_move rfl) rfl rfl ?_
  refine Rv rfl rfl rfl (U_lenOf rfl len_ros) rfl rfl ?_
  refine Rv rfl rfl rfl (U_lss rfl rfl) rfl rfl ?_
  refine Re rfl ?_
  refine thenQ_n ?_
  refine WcondP rfl rfl (fun hc1 => ?_) (fun hc1 => ?_)
  · have hck : k < l.length := by omega
    refine W_skip rfl ?_
    refine thenQ_n ?_
    refine W_seq rfl ?_
    refine W_block rfl ?_
    refine W_seq rfl ?_
    refine Wdraw rfl (by kernel_rfl) (by kernel_rfl) ?_
    refine Dv rfl rfl rfl (U_load2 rfl rfl rfl rfl) rfl rfl ?_
    refine Dv rfl rfl rfl (U_move rfl) rfl rfl ?_
    refine Dv rfl rfl rfl (U_move rfl) rfl rfl ?_
    have hx1 : k < l.length := by omega
    refine Dv rfl rfl rfl (U_indexR (j := k) rfl rfl rfl hx1) rfl rfl ?_
    refine Dv rfl rfl rfl (U_load1 rfl rfl (getM hx1)) rfl rfl ?_
    refine Dv rfl rfl rfl (U_call rfl rfl (isStarG_p n ks c l[k]) rfl) rfl rfl ?_
    refine Dv rfl rfl rfl (U_not rfl) rfl rfl ?_
    refine Dr.nil rfl ?_
    refine thenQ_n ?_
    refine Wcond rfl rfl (fun hc2 => absurd hc2 (by rw [inL_at hin hck]; simp)) (fun hc2 => ?_)
    refine W_skip rfl ?_
    refine blkQ_n ?_
    refine thenQ_n ?_
    refine W_reg rfl ?_
    refine Rv rfl rfl rfl (U_move rfl) rfl rfl ?_
    refine Rv rfl rfl rfl (U_add rfl rfl (w64e (m := ((k + 1 : Nat) : Int)) (by omega) (by omega) (by omega))) rfl rfl ?_
    refine Rv rfl rfl rfl (U_assign rfl) rfl rfl ?_
    refine Re rfl ?_
    refine thenQ_n ?_
    exact againTo (T' := [(1, .ros (l.map i64) l.length d), (2, .rop [i64 ((n : Nat) : Int), .ros (ks.flatMap lkN) ks.length c] 0), (5, i64 (((k + 1) : Nat) : Int))]) (H' := []) (n := 0) (l.length - (k + 1)) ⟨k + 1, (by omega), rfl, rfl⟩ (by omega) id ⟨eD rfl rfl, eD rfl rfl, eD rfl rfl, trivial⟩ trivial rfl rfl rfl rfl (fun _ _ => rfl)
  · refine W_exit rfl ?_
    refine thenQ_x ?_
    refine thenQ_x ?_
    refine blkQ_x rfl ?_
    refine thenQ_n ?_
    refine W_seq rfl ?_
    refine W_seq rfl ?_
    refine Wdraw rfl (by kernel_rfl) (by kernel_rfl) ?_
    refine Dv rfl rfl rfl (U_move rfl) rfl rfl ?_
    refine Dv rfl rfl rfl (U_lenOf rfl len_ros) rfl rfl ?_
    refine Dv rfl rfl rfl (OpU.toB (U_eql rfl rfl) (decide_eq_false (by omega))) rfl rfl ?_
    refine Dv rfl rfl rfl (U_move rfl) rfl rfl ?_
    refine Ds rfl rfl rfl rfl rfl ?_
    refine Ds rfl rfl rfl rfl rfl ?_
    refine Ds rfl rfl rfl rfl rfl ?_
    refine Ds rfl rfl rfl rfl rfl ?_
    refine Ds rfl rfl rfl rfl rfl ?_
    refine Ds rfl rfl rfl rfl rfl ?_
    refine Ds rfl rfl rfl rfl rfl ?_
    refine Dv rfl rfl rfl (U_pick_f rfl rfl) rfl rfl ?_
    refine Dr.nil rfl ?_
    refine thenQ_n ?_
    refine Wcond rfl rfl (fun h => nomatch h) (fun _ => ?_)
    refine W_skip rfl ?_
    refine thenQ_n ?_
    refine W_seq rfl ?_
    refine W_seq rfl ?_
    refine W_reg rfl ?_
    refine Rv rfl rfl rfl (U_load2 rfl rfl rfl rfl) rfl rfl ?_
    refine Rv rfl rfl rfl (U_call rfl rfl (countOf_p n ks c (by assumption)) rfl) rfl rfl ?_
    refine Rv rfl rfl rfl (U_eql rfl rfl) rfl rfl ?_
    refine Re rfl ?_
    refine thenQ_n ?_
    refine WcondP rfl rfl (fun hc4 => absurd hc4 (by have := cnt_acy hv ha; omega)) (fun hc4 => ?_)
    refine W_skip rfl ?_
    refine thenQ_n ?_
    refine W_seq rfl ?_
    refine W_reg rfl ?_
    refine Rv rfl rfl rfl (U_assign rfl) rfl rfl ?_
    refine Re rfl ?_
    refine thenQ_n ?_
    refine W_ret rfl ?_
    exact retL (rlT rfl rl0) rfl rfl
theorem ruledR_CY (n : Nat) (ks : List (Nat × Nat)) (c : Option Nat) (hv : VB n ks) (h40 : ks.length ≤ 40) (l : List Int) (d : Option Nat) (hll : l.length ≤ 1000000) (hin : inL 0 (((n : Nat) : Int) - 1) l = true) (h2 : ¬ l.length = 2) (g : Nat) (hg : Cyc n ks g) : Pure Try.prog 65 [bknA n ks c, intsA l d] (i64 16) := by
  have hv' := hv
  obtain ⟨hn1, hn, hkl, hk⟩ := hv'
  have hk2 := vb_lt hv
  refine pure_of_body Try.func65 (c := body Try.f65) rfl (by simp [Try.ntmps65]) fun w0 Φ0 => ?_
  refine W_seq rfl ?_
  refine W_reg rfl ?_
  refine Rv rfl rfl rfl (U_boxF rfl rfl rfl) rfl rfl ?_
  refine Rv rfl rfl rfl (U_assign rfl) rfl rfl ?_
  refine Re rfl ?_
  refine thenQ_n ?_
  refine W_seq rfl ?_
  refine W_seq rfl ?_
  refine W_reg rfl ?_
  refine Rv rfl rfl rfl (U_load2 rfl rfl rfl rfl) rfl rfl ?_
  refine Rv rfl rfl rfl (U_call rfl rfl (chkBRG_p n ks c hv h40) rfl) rfl rfl ?_
  refine Rv rfl rfl rfl (U_neq rfl rfl) rfl rfl ?_
  refine Re rfl ?_
  refine thenQ_n ?_
  refine WcondP rfl rfl (fun h => absurd h (by decide)) (fun _ => ?_)
  refine W_skip rfl ?_
  refine thenQ_n ?_
  refine W_seq rfl ?_
  refine W_seq rfl ?_
  refine W_reg rfl ?_
  refine Rv rfl rfl rfl (U_assign rfl) rfl rfl ?_
  refine Re rfl ?_
  refine thenQ_n ?_
  refine W_block rfl ?_
  refine LoopTo (T' := [(1, .ros (l.map i64) l.length d), (2, .rop [i64 ((n : Nat) : Int), .ros (ks.flatMap lkN) ks.length c] 0), (5, i64 ((0 : Nat) : Int))]) (H' := []) (n := 0) rfl (fun mz_ qz_ => ∃ (k : Nat), k ≤ l.length ∧ mz_ = l.length - k ∧ qz_ = ⟨[(1, .ros (l.map i64) l.length d), (2, .rop [i64 ((n : Nat) : Int), .ros (ks.flatMap lkN) ks.length c] 0), (5, i64 ((k : Nat) : Int))], [], 0, []⟩) ⟨0, (by omega), rfl, rfl⟩ id ⟨eD rfl rfl, eD rfl rfl, eD rfl rfl, trivial⟩ trivial rfl rfl rfl rfl (fun _ _ => rfl) ?_
  rintro _ _ ⟨k, hi0_0, rfl, rfl⟩
  refine W_seq rfl ?_
  refine W_seq rfl ?_
  refine W_reg rfl ?_
  refine Rv rfl rfl rfl (U_move rfl) rfl rfl ?_
  refine Rv rfl rfl rfl (U_move rfl) rfl rfl ?_
  refine Rv rfl rfl rfl (U_lenOf rfl len_ros) rfl rfl ?_
  refine Rv rfl rfl rfl (U_lss rfl rfl) rfl rfl ?_
  refine Re rfl ?_
  refine thenQ_n ?_
  refine WcondP rfl rfl (fun hc1 => ?_) (fun hc1 => ?_)
  · have hck : k < l.length := by omega
    refine W_skip rfl ?_
    refine thenQ_n ?_
    refine W_seq rfl ?_
    refine W_block rfl ?_
    refine W_seq rfl ?_
    refine Wdraw rfl (by kernel_rfl) (by kernel_rfl) ?_
    refine Dv rfl rfl rfl (U_load2 rfl rfl rfl rfl) rfl rfl ?_
    refine Dv rfl rfl rfl (U_move rfl) rfl rfl ?_
    refine Dv rfl rfl rfl (U_move rfl) rfl rfl ?_
    have hx1 : k < l.length := by omega
    refine Dv rfl rfl rfl (U_indexR (j := k) rfl rfl rfl hx1) rfl rfl ?_
    refine Dv rfl rfl rfl (U_load1 rfl rfl (getM hx1)) rfl rfl ?_
    refine Dv rfl rfl rfl (U_call rfl rfl (isStarG_p n ks c l[k]) rfl) rfl rfl ?_
    refine Dv rfl rfl rfl (U_not rfl) rfl rfl ?_
    refine Dr.nil rfl ?_
    refine thenQ_n ?_
    refine Wcond rfl rfl (fun hc2 => absurd hc2 (by rw [inL_at hin hck]; simp)) (fun hc2 => ?_)
    refine W_skip rfl ?_
    refine blkQ_n ?_
    refine thenQ_n ?_
    refine W_reg rfl ?_
    refine Rv rfl rfl rfl (U_move rfl) rfl rfl ?_
    refine Rv rfl rfl rfl (U_add rfl rfl (w64e (m := ((k + 1 : Nat) : Int)) (by omega) (by omega) (by omega))) rfl rfl ?_
    refine Rv rfl rfl rfl (U_assign rfl) rfl rfl ?_
    refine Re rfl ?_
    refine thenQ_n ?_
    exact againTo (T' := [(1, .ros (l.map i64) l.length d), (2, .rop [i64 ((n : Nat) : Int), .ros (ks.flatMap lkN) ks.length c] 0), (5, i64 (((k + 1) : Nat) : Int))]) (H' := []) (n := 0) (l.length - (k + 1)) ⟨k + 1, (by omega), rfl, rfl⟩ (by omega) id ⟨eD rfl rfl, eD rfl rfl, eD rfl rfl, trivial⟩ trivial rfl rfl rfl rfl (fun _ _ => rfl)
  · refine W_exit rfl ?_
    refine thenQ_x ?_
    refine thenQ_x ?_
    refine blkQ_x rfl ?_
    refine thenQ_n ?_
    refine W_seq rfl ?_
    refine W_seq rfl ?_
    refine Wdraw rfl (by kernel_rfl) (by kernel_rfl) ?_
    refine Dv rfl rfl rfl (U_move rfl) rfl rfl ?_
    refine Dv rfl rfl rfl (U_lenOf rfl len_ros) rfl rfl ?_
    refine Dv rfl rfl rfl (OpU.toB (U_eql rfl rfl) (decide_eq_false (by omega))) rfl rfl ?_
    refine Dv rfl rfl rfl (U_move rfl) rfl rfl ?_
    refine Ds rfl rfl rfl rfl rfl ?_
    refine Ds rfl rfl rfl rfl rfl ?_
    refine Ds rfl rfl rfl rfl rfl ?_
    refine Ds rfl rfl rfl rfl rfl ?_
    refine Ds rfl rfl rfl rfl rfl ?_
    refine Ds rfl rfl rfl rfl rfl ?_
    refine Ds rfl rfl rfl rfl rfl ?_
    refine Dv rfl rfl rfl (U_pick_f rfl rfl) rfl rfl ?_
    refine Dr.nil rfl ?_
    refine thenQ_n ?_
    refine Wcond rfl rfl (fun h => nomatch h) (fun _ => ?_)
    refine W_skip rfl ?_
    refine thenQ_n ?_
    refine W_seq rfl ?_
    refine W_seq rfl ?_
    refine W_reg rfl ?_
    refine Rv rfl rfl rfl (U_load2 rfl rfl rfl rfl) rfl rfl ?_
    refine Rv rfl rfl rfl (U_call rfl rfl (countOf_p n ks c (by assumption)) rfl) rfl rfl ?_
    refine Rv rfl rfl rfl (U_eql rfl rfl) rfl rfl ?_
    refine Re rfl ?_
    refine thenQ_n ?_
    refine WcondP rfl rfl (fun hc4 => ?_) (fun hc4 => absurd (by rw [cnt_cyc hv hg]; rfl) hc4)
    refine W_seq rfl ?_
    refine W_reg rfl ?_
    refine Rv rfl rfl rfl (U_assign rfl) rfl rfl ?_
    refine Re rfl ?_
    refine thenQ_n ?_
    refine W_ret rfl ?_
    refine thenQ_r ?_
    exact retL (rlT rfl rl0) rfl rfl
end Go.Proofs.Ythmibifghihdaaa
end

section
namespace Go.Proofs.Ythmibifghihdaaa
set_option maxRecDepth 20000
open Go.AE
abbrev natsL (l : List Nat) : AV := .ros (l.map n64) l.length none
abbrev ordsA (l : List (List Nat)) (c : Option Nat) : AV := .ros (l.map natsL) l.length c
theorem prt_S {L : List (List Nat)} {x y k : Nat} (hk : k < L.length) : prt (L.take (k + 1)) x y = if plc L[k] x < plc L[k] y then prt (L.take k) x y ++ [L[k]] else prt (L.take k) x y := by
  unfold prt
  rw [List.take_succ_eq_append_getElem hk, List.filter_append]
  by_cases h : plc L[k] x < plc L[k] y
  · rw [if_pos h]; simp [prtB, h]
  · rw [if_neg h]; simp [prtB, h]
theorem prt_le {L : List (List Nat)} {x y k : Nat} : (prt (L.take k) x y).length ≤ k := by
  have h1 := List.length_filter_le (prtB x y) (L.take k)
  have h2 := List.length_take_le k L
  unfold prt; omega
theorem place_p (o : List Nat) (c : Option Nat) (x : Nat) (hl : o.length ≤ 1000000) : Pure Try.prog 96 [natsA o c, i64 (x : Nat)] (i64 (plc o x)) := by
  refine pure_of_body Try.func96 (c := body Try.f96) rfl (by simp [Try.ntmps96]) fun w0 Φ0 => ?_
  refine W_seq rfl ?_
  refine W_reg rfl ?_
  refine Rv rfl rfl rfl (U_assign rfl) rfl rfl ?_
  refine Re rfl ?_
  refine thenQ_n ?_
  refine W_seq rfl ?_
  refine W_seq rfl ?_
  refine W_reg rfl ?_
  refine Rv rfl rfl rfl (U_assign rfl) rfl rfl ?_
  refine Re rfl ?_
  refine thenQ_n ?_
  refine W_block rfl ?_
  refine LoopTo (T' := [(0, .ros (o.map n64) o.length c), (1, i64 ((x : Nat) : Int)), (5, i64 ((0 : Nat) : Int))]) (H' := []) (n := 0) rfl (fun mz_ qz_ => ∃ (k : Nat), k ≤ o.length ∧ (∀ j (hj : j < o.length), j < k → decide (x = o[j]) = false) ∧ mz_ = o.length - k ∧ qz_ = ⟨[(0, .ros (o.map n64) o.length c), (1, i64 ((x : Nat) : Int)), (5, i64 ((k : Nat) : Int))], [], 0, []⟩) ⟨0, (by omega), (fun j hj h => absurd h (Nat.not_lt_zero _)), rfl, rfl⟩ id ⟨eD rfl rfl, eD rfl rfl, eD rfl rfl, trivial⟩ trivial rfl rfl rfl rfl (fun _ _ => rfl) ?_
  rintro _ _ ⟨k, hi0_0, hi0_1, rfl, rfl⟩
  refine W_seq rfl ?_
  refine W_seq rfl ?_
  refine W_reg rfl ?_
  refine Rv rfl rfl rfl (U_move rfl) rfl rfl ?_
  refine Rv rfl rfl rfl (U_move rfl) rfl rfl ?_
  refine Rv rfl rfl rfl (U_lenOf rfl len_ros) rfl rfl ?_
  refine Rv rfl rfl rfl (U_lss rfl rfl) rfl rfl ?_
  refine Re rfl ?_
  refine thenQ_n ?_
  refine WcondP rfl rfl (fun hc0 => ?_) (fun hc0 => ?_)
  · have hck : k < o.length := by omega
    refine W_skip rfl ?_
    refine thenQ_n ?_
    refine W_seq rfl ?_
    refine W_block rfl ?_
    refine W_seq rfl ?_
    refine W_reg rfl ?_
    refine Rv rfl rfl rfl (U_move rfl) rfl rfl ?_
    refine Rv rfl rfl rfl (U_move rfl) rfl rfl ?_
    have hx1 : k < o.length := by omega
    refine Rv rfl rfl rfl (U_indexR (j := k) rfl rfl rfl hx1) rfl rfl ?_
    refine Rv rfl rfl rfl (U_load1 rfl rfl (getM hx1)) rfl rfl ?_
    refine Rv rfl rfl rfl (U_move rfl) rfl rfl ?_
    refine Rv rfl rfl rfl (U_eql rfl rfl) rfl rfl ?_
    refine Re rfl ?_
    refine thenQ_n ?_
    refine WcondP rfl rfl (fun hc1 => ?_) (fun hc1 => ?_)
    · refine W_seq rfl ?_
      refine W_reg rfl ?_
      refine Rv rfl rfl rfl (U_move rfl) rfl rfl ?_
      refine Rv rfl rfl rfl (U_assign rfl) rfl rfl ?_
      refine Re rfl ?_
      refine thenQ_n ?_
      refine W_ret rfl ?_
      refine blkQ_r ?_
      refine thenQ_r ?_
      refine thenQ_r ?_
      refine blkQ_r ?_
      refine thenQ_r ?_
      exact retL (rlT rfl rl0) (by first | rfl | (simp only [packA]; rw [plc, idx_end fun j hj => hi0_1 j hj (by omega)]; first | done | rfl) | (simp only [packA]; rw [plc, idx_hit (k := k) hck (fun j hj h => hi0_1 j hj h) (by simp; omega)]; first | done | rfl)) rfl
    · refine W_skip rfl ?_
      refine blkQ_n ?_
      refine thenQ_n ?_
      refine W_reg rfl ?_
      refine Rv rfl rfl rfl (U_move rfl) rfl rfl ?_
      refine Rv rfl rfl rfl (U_add rfl rfl (w64e (m := ((k + 1 : Nat) : Int)) (by omega) (by omega) (by omega))) rfl rfl ?_
      refine Rv rfl rfl rfl (U_assign rfl) rfl rfl ?_
      refine Re rfl ?_
      refine thenQ_n ?_
      exact againTo (T' := [(0, .ros (o.map n64) o.length c), (1, i64 ((x : Nat) : Int)), (5, i64 (((k + 1) : Nat) : Int))]) (H' := []) (n := 0) (o.length - (k + 1)) ⟨k + 1, (by omega), (by intro j hj h; rcases Nat.lt_succ_iff_lt_or_eq.1 h with h | rfl; exact hi0_1 j hj h; simp; omega), rfl, rfl⟩ (by omega) id ⟨eD rfl rfl, eD rfl rfl, eD rfl rfl, trivial⟩ trivial rfl rfl rfl rfl (fun _ _ => rfl)
  · have hkl : k = o.length := by omega
    refine W_exit rfl ?_
    refine thenQ_x ?_
    refine thenQ_x ?_
    refine blkQ_x rfl ?_
    refine thenQ_n ?_
    refine W_seq rfl ?_
    refine W_reg rfl ?_
    refine Rv rfl rfl rfl (U_assign rfl) rfl rfl ?_
    refine Re rfl ?_
    refine thenQ_n ?_
    refine W_ret rfl ?_
    exact retL (rlT rfl rl0) (by first | rfl | (simp only [packA]; rw [plc, idx_end fun j hj => hi0_1 j hj (by omega)]; first | done | rfl) | (simp only [packA]; rw [plc, idx_hit (k := k) hck (fun j hj h => hi0_1 j hj h) (by simp; omega)]; first | done | rfl)) rfl
theorem part_p (L : List (List Nat)) (c : Option Nat) (x y : Nat) (hl : L.length ≤ 1000000) (hL : ∀ o ∈ L, o.length ≤ 1000000) : Pure Try.prog 87 [ordsA L c, i64 (x : Nat), i64 (y : Nat)] (ordsA (prt L x y) none) := by
  refine pure_of_body Try.func87 (c := body Try.f87) rfl (by simp [Try.ntmps87]) fun w0 Φ0 => ?_
  refine W_seq rfl ?_
  refine W_reg rfl ?_
  refine Rv rfl rfl rfl (U_assign rfl) rfl rfl ?_
  refine Re rfl ?_
  refine thenQ_n ?_
  refine W_seq rfl ?_
  refine W_reg rfl ?_
  refine Rv rfl rfl rfl (U_assign rfl) rfl rfl ?_
  refine Re rfl ?_
  refine thenQ_n ?_
  refine W_seq rfl ?_
  refine W_seq rfl ?_
  refine W_reg rfl ?_
  refine Rv rfl rfl rfl (U_assign rfl) rfl rfl ?_
  refine Re rfl ?_
  refine thenQ_n ?_
  refine W_block rfl ?_
  refine LoopTo (T' := [(0, .ros (L.map natsL) L.length c), (1, i64 ((x : Nat) : Int)), (2, i64 ((y : Nat) : Int)), (7, .out 0 [].length 1), (8, i64 ((0 : Nat) : Int))]) (H' := [(0, outB ([].map natsL) 25 [].length)]) (n := 1) rfl (fun mz_ qz_ => ∃ (k : Nat) (P : List (List Nat)), k ≤ L.length ∧ P = prt (L.take k) x y ∧ mz_ = L.length - k ∧ qz_ = ⟨[(0, .ros (L.map natsL) L.length c), (1, i64 ((x : Nat) : Int)), (2, i64 ((y : Nat) : Int)), (7, .out 0 P.length 1), (8, i64 ((k : Nat) : Int))], [(0, outB (P.map natsL) 25 P.length)], 1, []⟩) ⟨0, [], (by omega), rfl, rfl, rfl⟩ id ⟨eD rfl rfl, eD rfl rfl, eD rfl rfl, eW rfl le_nils_out rfl, eD rfl rfl, trivial⟩ ⟨rO0 rfl, trivial⟩ rfl rfl rfl rfl (fun _ _ => rfl) ?_
  rintro _ _ ⟨k, P, hi0_0, hi0_1, rfl, rfl⟩
  have hpl : P.length ≤ k := by rw [hi0_1]; exact prt_le
  refine W_seq rfl ?_
  refine W_seq rfl ?_
  refine W_reg rfl ?_
  refine Rv rfl rfl rfl (U_move rfl) rfl rfl ?_
  refine Rv rfl rfl rfl (U_move rfl) rfl rfl ?_
  refine Rv rfl rfl rfl (U_lenOf rfl len_ros) rfl rfl ?_
  refine Rv rfl rfl rfl (U_lss rfl rfl) rfl rfl ?_
  refine Re rfl ?_
  refine thenQ_n ?_
  refine WcondP rfl rfl (fun hc0 => ?_) (fun hc0 => ?_)
  · have hck : k < L.length := by omega
    refine W_skip rfl ?_
    refine thenQ_n ?_
    refine W_seq rfl ?_
    refine W_block rfl ?_
    refine W_seq rfl ?_
    refine Wdraw rfl (by kernel_rfl) (by kernel_rfl) ?_
    refine Dv rfl rfl rfl (U_move rfl) rfl rfl ?_
    refine Dv rfl rfl rfl (U_move rfl) rfl rfl ?_
    have hx1 : k < L.length := by omega
    refine Dv rfl rfl rfl (U_indexR (j := k) rfl rfl rfl hx1) rfl rfl ?_
    refine Dv rfl rfl rfl (U_load1 rfl rfl (getM hx1)) rfl rfl ?_
    refine Dv rfl rfl rfl (U_move rfl) rfl rfl ?_
    refine Dv rfl rfl rfl (U_call rfl rfl (place_p L[k] none x (by first | assumption | exact hL _ (List.getElem_mem _))) rfl) rfl rfl ?_
    refine Dv rfl rfl rfl (U_move rfl) rfl rfl ?_
    refine Dv rfl rfl rfl (U_move rfl) rfl rfl ?_
    refine Dv rfl rfl rfl (U_indexR (j := k) rfl rfl rfl hx1) rfl rfl ?_
    refine Dv rfl rfl rfl (U_load1 rfl rfl (getM hx1)) rfl rfl ?_
    refine Dv rfl rfl rfl (U_move rfl) rfl rfl ?_
    refine Dv rfl rfl rfl (U_call rfl rfl (place_p L[k] none y (by first | assumption | exact hL _ (List.getElem_mem _))) rfl) rfl rfl ?_
    refine Dv rfl rfl rfl (U_lss rfl rfl) rfl rfl ?_
    refine Dr.nil rfl ?_
    refine thenQ_n ?_
    refine WcondP rfl rfl (fun hc1 => ?_) (fun hc1 => ?_)
    · refine W_reg rfl ?_
      refine Rv rfl rfl rfl (U_move rfl) rfl rfl ?_
      refine Rv rfl rfl rfl (U_move rfl) rfl rfl ?_
      refine Rv rfl rfl rfl (U_move rfl) rfl rfl ?_
      refine Rv rfl rfl rfl (U_indexR (j := k) rfl rfl rfl hx1) rfl rfl ?_
      refine Rv rfl rfl rfl (U_load1 rfl rfl (getM hx1)) rfl rfl ?_
      refine Rv rfl rfl rfl (U_buildSliceF (by rfl) (by decide) rfl rfl rfl) rfl rfl ?_
      refine Ra rfl rfl rfl (U_appO (b := 0) (m := 0) (cs' := (P ++ [L[k]]).map natsL) (n' := (P ++ [L[k]]).length) rfl rfl (by simp) rfl (map_len1 _) rfl rfl (by omega) (appM _ _) (len1 _ _)) rfl rfl rfl ?_
      refine Rv rfl rfl rfl (U_assign rfl) rfl rfl ?_
      refine Re rfl ?_
      refine blkQ_n ?_
      refine thenQ_n ?_
      refine W_reg rfl ?_
      refine Rv rfl rfl rfl (U_move rfl) rfl rfl ?_
      refine Rv rfl rfl rfl (U_add rfl rfl (w64e (m := ((k + 1 : Nat) : Int)) (by omega) (by omega) (by omega))) rfl rfl ?_
      refine Rv rfl rfl rfl (U_assign rfl) rfl rfl ?_
      refine Re rfl ?_
      refine thenQ_n ?_
      exact againTo (T' := [(0, .ros (L.map natsL) L.length c), (1, i64 ((x : Nat) : Int)), (2, i64 ((y : Nat) : Int)), (7, .out 0 (P ++ [L[k]]).length 1), (8, i64 (((k + 1) : Nat) : Int))]) (H' := [(0, outB ((P ++ [L[k]]).map natsL) 25 (P ++ [L[k]]).length)]) (n := 1) (L.length - (k + 1)) ⟨k + 1, P ++ [L[k]], (by omega), (by first | rw [prt_S hck, if_pos hc1, ← hi0_1] | rw [prt_S hck, if_neg hc1, ← hi0_1]), rfl, rfl⟩ (by omega) (mapN [1]) ⟨eD rfl rfl, eD rfl rfl, eD rfl rfl, e_ rfl rfl, eD rfl rfl, trivial⟩ ⟨rO (mapD (fun _ => rfl) _) rfl rfl, trivial⟩ rfl rfl rfl rfl (fun _ h => absurd h (Nat.not_lt_zero _))
    · refine W_skip rfl ?_
      refine blkQ_n ?_
      refine thenQ_n ?_
      refine W_reg rfl ?_
      refine Rv rfl rfl rfl (U_move rfl) rfl rfl ?_
      refine Rv rfl rfl rfl (U_add rfl rfl (w64e (m := ((k + 1 : Nat) : Int)) (by omega) (by omega) (by omega))) rfl rfl ?_
      refine Rv rfl rfl rfl (U_assign rfl) rfl rfl ?_
      refine Re rfl ?_
      refine thenQ_n ?_
      exact againTo (T' := [(0, .ros (L.map natsL) L.length c), (1, i64 ((x : Nat) : Int)), (2, i64 ((y : Nat) : Int)), (7, .out 0 P.length 1), (8, i64 (((k + 1) : Nat) : Int))]) (H' := [(0, outB (P.map natsL) 25 P.length)]) (n := 1) (L.length - (k + 1)) ⟨k + 1, P, (by omega), (by first | rw [prt_S hck, if_pos hc1, ← hi0_1] | rw [prt_S hck, if_neg hc1, ← hi0_1]), rfl, rfl⟩ (by omega) id ⟨eD rfl rfl, eD rfl rfl, eD rfl rfl, e_ rfl rfl, eD rfl rfl, trivial⟩ ⟨rO (mapD (fun _ => rfl) _) rfl rfl, trivial⟩ rfl rfl rfl rfl (fun _ _ => rfl)
  · obtain rfl : k = L.length := by omega
    rw [List.take_length] at hi0_1
    refine W_exit rfl ?_
    refine thenQ_x ?_
    refine thenQ_x ?_
    refine blkQ_x rfl ?_
    refine thenQ_n ?_
    refine W_seq rfl ?_
    refine W_reg rfl ?_
    refine Rv rfl rfl rfl (U_move rfl) rfl rfl ?_
    refine Rv rfl rfl rfl (U_assign rfl) rfl rfl ?_
    refine Re rfl ?_
    refine thenQ_n ?_
    refine WfrO 0 (P.map natsL) rfl (mapD (fun _ => rfl) _) (T' := [(6, .ros (P.map natsL) P.length none)]) (H' := []) ⟨fO rfl, trivial⟩ trivial ?_
    refine W_ret rfl ?_
    exact retL (rlT rfl rl0) (by first | rfl | (simp only [packA]; rw [hi0_1]; first | done | rfl)) rfl
end Go.Proofs.Ythmibifghihdaaa
end

section
namespace Go.Proofs.Ythmibifghihdaaa
set_option maxRecDepth 20000
open Go.AE
theorem lt10_of {k l : Nat} (h : k ≤ 10) (h2 : (((1 <<< k : Nat) : Nat) : Int) < ((l : Nat) : Int)) (h3 : l ≤ 1000) : k < 10 := by
  rcases Nat.lt_or_ge k 10 with h4 | h4
  · exact h4
  · obtain rfl : k = 10 := by omega
    have : 1 <<< 10 = 1024 := rfl
    omega
theorem dpS_T {D : List (List Nat) → Nat} {L : List (List Nat)} {bs x y : Nat} (h1 : nedQ L.length < bs) (h2 : 0 < (prt L x y).length) (h3 : 0 < (prt L y x).length) : min bs (1 + max (D (prt L x y)) (D (prt L y x))) = dpS D L bs (x, y) := (if_pos ⟨h1, h2, h3⟩).symm
theorem dpS_F {D : List (List Nat) → Nat} {L : List (List Nat)} {bs x y : Nat} (h : ¬ (nedQ L.length < bs ∧ 0 < (prt L x y).length ∧ 0 < (prt L y x).length)) : bs = dpS D L bs (x, y) := (if_neg h).symm
theorem dpB_le {D : List (List Nat) → Nat} {L : List (List Nat)} : ∀ ps : List (Nat × Nat), dpB D L ps ≤ 100 := by
  intro ps
  have : ∀ (ps : List (Nat × Nat)) (b : Nat), ps.foldl (dpS D L) b ≤ b := by
    intro ps
    induction ps with
    | nil => intro b; exact Nat.le_refl _
    | cons p ps ih => intro b; exact Nat.le_trans (ih _) dpS_le
  refine Nat.le_trans (this ps _) ?_
  unfold dpI; split <;> omega
theorem dpB_S {D : List (List Nat) → Nat} {L : List (List Nat)} {ps : List (Nat × Nat)} {p : Nat × Nat} : dpB D L (ps ++ [p]) = dpS D L (dpB D L ps) p := by simp [dpB]
theorem dpF_le {n f : Nat} {L : List (List Nat)} : dpF n f L ≤ 100 := by
  cases f with
  | zero => simp [dpF]
  | succ f => exact dpB_le _
theorem deep_step (n : Nat) (hn : n ≤ 10) (m : Nat) (ih : ∀ (L : List (List Nat)), 0 < L.length → L.length ≤ m → L.length ≤ 1000 → (∀ o ∈ L, o.length ≤ 1000000) → Pure Try.prog 86 [ordsA L none, i64 (n : Nat)] (i64 ((dpF n m L : Nat) : Int))) (L : List (List Nat)) (hm : L.length ≤ m + 1) (hm20 : L.length ≤ 1000) (hL : ∀ o ∈ L, o.length ≤ 1000000) : Pure Try.prog 86 [ordsA L none, i64 (n : Nat)] (i64 ((dpF n (m + 1) L : Nat) : Int)) := by
  refine pure_of_body Try.func86 (c := body Try.f86) rfl (by simp [Try.ntmps86]) fun w0 Φ0 => ?_
  refine W_seq rfl ?_
  refine W_reg rfl ?_
  refine Rv rfl rfl rfl (U_assign rfl) rfl rfl ?_
  refine Re rfl ?_
  refine thenQ_n ?_
  refine W_seq rfl ?_
  refine W_reg rfl ?_
  refine Rv rfl rfl rfl (U_assign rfl) rfl rfl ?_
  refine Re rfl ?_
  refine thenQ_n ?_
  refine W_seq rfl ?_
  refine W_block rfl ?_
  refine LoopTo (T' := [(0, .ros (L.map natsL) L.length none), (1, i64 ((n : Nat) : Int)), (5, i64 ((0 : Nat) : Int))]) (H' := []) (n := 0) rfl (fun mz_ qz_ => ∃ (k : Nat), k ≤ 10 ∧ (∀ j, j < k → 1 <<< j < L.length) ∧ mz_ = 1000 - k ∧ qz_ = ⟨[(0, .ros (L.map natsL) L.length none), (1, i64 ((n : Nat) : Int)), (5, i64 ((k : Nat) : Int))], [], 0, []⟩) ⟨0, (by omega), (by omega), rfl, rfl⟩ id ⟨eD rfl rfl, eD rfl rfl, eD rfl rfl, trivial⟩ trivial rfl rfl rfl rfl (fun _ _ => rfl) ?_
  rintro _ _ ⟨k, hi0_0, hi0_1, rfl, rfl⟩
  refine W_seq rfl ?_
  refine W_seq rfl ?_
  refine W_reg rfl ?_
  refine Rv rfl rfl rfl (U_move rfl) rfl rfl ?_
  refine Rv rfl rfl rfl (U_shl rfl rfl (by omega) (shlN (n := 1) (i := k) (shl63' (by omega)) (by omega))) rfl rfl ?_
  refine Rv rfl rfl rfl (U_move rfl) rfl rfl ?_
  refine Rv rfl rfl rfl (U_lenOf rfl len_ros) rfl rfl ?_
  refine Rv rfl rfl rfl (U_lss rfl rfl) rfl rfl ?_
  refine Re rfl ?_
  refine thenQ_n ?_
  refine WcondP rfl rfl (fun hc0 => ?_) (fun hc0 => ?_)
  · have hk10 : k < 10 := lt10_of hi0_0 hc0 hm20
    refine W_skip rfl ?_
    refine thenQ_n ?_
    refine W_block rfl ?_
    refine W_reg rfl ?_
    refine Rv rfl rfl rfl (U_move rfl) rfl rfl ?_
    refine Rv rfl rfl rfl (U_add rfl rfl (w64e (m := ((k + 1 : Nat) : Int)) (by omega) (by omega) (by omega))) rfl rfl ?_
    refine Rv rfl rfl rfl (U_assign rfl) rfl rfl ?_
    refine Re rfl ?_
    refine blkQ_n ?_
    refine thenQ_n ?_
    exact againTo (T' := [(0, .ros (L.map natsL) L.length none), (1, i64 ((n : Nat) : Int)), (5, i64 (((k + 1) : Nat) : Int))]) (H' := []) (n := 0) (1000 - (k + 1)) ⟨k + 1, (by omega), (by intro j hj; rcases Nat.lt_succ_iff_lt_or_eq.1 hj with h | rfl; exact hi0_1 j h; omega), rfl, rfl⟩ (by omega) id ⟨eD rfl rfl, eD rfl rfl, eD rfl rfl, trivial⟩ trivial rfl rfl rfl rfl (fun _ _ => rfl)
  · have hnd : nedQ L.length = k := ned_is hi0_1 (by omega)
    refine W_exit rfl ?_
    refine thenQ_x ?_
    refine thenQ_x ?_
    refine blkQ_x rfl ?_
    refine thenQ_n ?_
    refine W_seq rfl ?_
    refine W_reg rfl ?_
    refine Rv rfl rfl rfl (U_assign rfl) rfl rfl ?_
    refine Re rfl ?_
    refine thenQ_n ?_
    refine W_seq rfl ?_
    refine W_seq rfl ?_
    refine W_reg rfl ?_
    refine Rv rfl rfl rfl (U_move rfl) rfl rfl ?_
    refine Rv rfl rfl rfl (U_eql rfl rfl) rfl rfl ?_
    refine Re rfl ?_
    refine thenQ_n ?_
    refine WcondP rfl rfl (fun hc1 => ?_) (fun hc1 => ?_)
    · have hI : 0 = dpI L := by rw [dpI, if_pos (by omega)]
      refine W_reg rfl ?_
      refine Rv rfl rfl rfl (U_assign rfl) rfl rfl ?_
      refine Re rfl ?_
      refine thenQ_n ?_
      refine W_seq rfl ?_
      refine W_seq rfl ?_
      refine W_reg rfl ?_
      refine Rv rfl rfl rfl (U_assign rfl) rfl rfl ?_
      refine Re rfl ?_
      refine thenQ_n ?_
      refine W_block rfl ?_
      refine LoopTo (T' := [(0, .ros (L.map natsL) L.length none), (1, i64 ((n : Nat) : Int)), (5, i64 ((k : Nat) : Int)), (6, i64 ((0 : Nat) : Int)), (7, i64 ((0 : Nat) : Int))]) (H' := []) (n := 0) rfl (fun mz_ qz_ => ∃ (one : Nat) (bs : Nat), one ≤ n ∧ bs = dpB (dpF n m) L (prK n one) ∧ mz_ = n - one ∧ qz_ = ⟨[(0, .ros (L.map natsL) L.length none), (1, i64 ((n : Nat) : Int)), (5, i64 ((k : Nat) : Int)), (6, i64 ((bs : Nat) : Int)), (7, i64 ((one : Nat) : Int))], [], 0, []⟩) ⟨0, 0, (by omega), hI, rfl, rfl⟩ id ⟨eD rfl rfl, eD rfl rfl, eD rfl rfl, eD rfl rfl, eD rfl rfl, trivial⟩ trivial rfl rfl rfl rfl (fun _ _ => rfl) ?_
      rintro _ _ ⟨one, bs, hi1_0, hi1_1, rfl, rfl⟩
      refine W_seq rfl ?_
      refine W_seq rfl ?_
      refine W_reg rfl ?_
      refine Rv rfl rfl rfl (U_move rfl) rfl rfl ?_
      refine Rv rfl rfl rfl (U_move rfl) rfl rfl ?_
      refine Rv rfl rfl rfl (U_lss rfl rfl) rfl rfl ?_
      refine Re rfl ?_
      refine thenQ_n ?_
      refine WcondP rfl rfl (fun hc2 => ?_) (fun hc2 => ?_)
      · refine W_skip rfl ?_
        refine thenQ_n ?_
        refine W_seq rfl ?_
        refine W_block rfl ?_
        refine W_seq rfl ?_
        refine W_reg rfl ?_
        refine Rv rfl rfl rfl (U_move rfl) rfl rfl ?_
        refine Rv rfl rfl rfl (U_add rfl rfl (w64e (m := ((one + 1 : Nat) : Int)) (by omega) (by omega) (by omega))) rfl rfl ?_
        refine Rv rfl rfl rfl (U_assign rfl) rfl rfl ?_
        refine Re rfl ?_
        refine thenQ_n ?_
        refine W_block rfl ?_
        refine LoopTo (T' := [(0, .ros (L.map natsL) L.length none), (1, i64 ((n : Nat) : Int)), (5, i64 ((k : Nat) : Int)), (6, i64 ((bs : Nat) : Int)), (7, i64 ((one : Nat) : Int)), (8, i64 (((one + 1) : Nat) : Int))]) (H' := []) (n := 0) rfl (fun mz_ qz_ => ∃ (two : Nat) (b2 : Nat), one + 1 ≤ two ∧ two ≤ n ∧ b2 = dpB (dpF n m) L (prK n one ++ prR one two) ∧ mz_ = n - two ∧ qz_ = ⟨[(0, .ros (L.map natsL) L.length none), (1, i64 ((n : Nat) : Int)), (5, i64 ((k : Nat) : Int)), (6, i64 ((b2 : Nat) : Int)), (7, i64 ((one : Nat) : Int)), (8, i64 ((two : Nat) : Int))], [], 0, []⟩) ⟨one + 1, bs, (Nat.le_refl _), (by omega), (by simp [prR]; exact hi1_1), rfl, rfl⟩ id ⟨eD rfl rfl, eD rfl rfl, eD rfl rfl, eD rfl rfl, eD rfl rfl, eD rfl rfl, trivial⟩ trivial rfl rfl rfl rfl (fun _ _ => rfl) ?_
        rintro _ _ ⟨two, b2, hi2_0, hi2_1, hi2_2, rfl, rfl⟩
        have hb2 : b2 ≤ 100 := by rw [hi2_2]; exact dpB_le _
        refine W_seq rfl ?_
        refine W_seq rfl ?_
        refine W_reg rfl ?_
        refine Rv rfl rfl rfl (U_move rfl) rfl rfl ?_
        refine Rv rfl rfl rfl (U_move rfl) rfl rfl ?_
        refine Rv rfl rfl rfl (U_lss rfl rfl) rfl rfl ?_
        refine Re rfl ?_
        refine thenQ_n ?_
        refine WcondP rfl rfl (fun hc3 => ?_) (fun hc3 => ?_)
        · have hp2 := prt_two (L := L) (x := one) (y := two)
          have hq1 : (dpF n m) (prt L one two) ≤ 100 := dpF_le
          have hq2 : (dpF n m) (prt L two one) ≤ 100 := dpF_le
          refine W_skip rfl ?_
          refine thenQ_n ?_
          refine W_seq rfl ?_
          refine W_block rfl ?_
          refine W_seq rfl ?_
          refine W_reg rfl ?_
          refine Rv rfl rfl rfl (U_move rfl) rfl rfl ?_
          refine Rv rfl rfl rfl (U_move rfl) rfl rfl ?_
          refine Rv rfl rfl rfl (U_move rfl) rfl rfl ?_
          refine Rv rfl rfl rfl (U_call rfl rfl (part_p L none one two (by omega) hL) rfl) rfl rfl ?_
          refine Rv rfl rfl rfl (U_move rfl) rfl rfl ?_
          refine Rv rfl rfl rfl (U_move rfl) rfl rfl ?_
          refine Rv rfl rfl rfl (U_move rfl) rfl rfl ?_
          refine Rv rfl rfl rfl (U_call rfl rfl (part_p L none two one (by omega) hL) rfl) rfl rfl ?_
          refine Rv rfl rfl rfl (U_assign rfl) rfl rfl ?_
          refine Rv rfl rfl rfl (U_assign rfl) rfl rfl ?_
          refine Re rfl ?_
          refine thenQ_n ?_
          refine W_seq rfl ?_
          refine W_reg rfl ?_
          refine Rv rfl rfl rfl (U_move rfl) rfl rfl ?_
          refine Rv rfl rfl rfl (U_move rfl) rfl rfl ?_
          refine Rv rfl rfl rfl (U_gtr rfl rfl) rfl rfl ?_
          refine Rv rfl rfl rfl (U_move rfl) rfl rfl ?_
          refine Rsplit (t := 43) rfl (fun hg1 => ?_) (fun hg1 => ?_)
          · rw [hg1]
            have hg1' : ((k : Nat) : Int) < ((b2 : Nat) : Int) := of_decide_eq_true hg1
            have hg1 := hg1'
            refine Rv rfl rfl rfl (U_move rfl) rfl rfl ?_
            refine Rv rfl rfl rfl (U_lenOf rfl len_ros) rfl rfl ?_
            refine Rv rfl rfl rfl (U_gtr rfl rfl) rfl rfl ?_
            refine Rv rfl rfl rfl (U_pick_t rfl rfl) rfl rfl ?_
            refine Rv rfl rfl rfl (U_move rfl) rfl rfl ?_
            refine Rsplit (t := 48) rfl (fun hg2 => ?_) (fun hg2 => ?_)
            · rw [hg2]
              have hg2' : 0 < (((prt L one two).length : Nat) : Int) := of_decide_eq_true hg2
              have hg2 := hg2'
              refine Rv rfl rfl rfl (U_move rfl) rfl rfl ?_
              refine Rv rfl rfl rfl (U_lenOf rfl len_ros) rfl rfl ?_
              refine Rv rfl rfl rfl (U_gtr rfl rfl) rfl rfl ?_
              refine Rv rfl rfl rfl (U_pick_t rfl rfl) rfl rfl ?_
              refine Re rfl ?_
              refine thenQ_n ?_
              refine WcondP rfl rfl (fun hc4 => ?_) (fun hc4 => ?_)
              · have hst : min b2 (1 + max ((dpF n m) (prt L one two)) ((dpF n m) (prt L two one))) = dpS (dpF n m) L b2 (one, two) := dpS_T (by omega) (by omega) (by omega)
                refine W_reg rfl ?_
                refine Rv rfl rfl rfl (U_move rfl) rfl rfl ?_
                refine Rv rfl rfl rfl (U_move rfl) rfl rfl ?_
                refine Rv rfl rfl rfl (U_move rfl) rfl rfl ?_
                refine Rv rfl rfl rfl (U_call rfl rfl (ih (prt L one two) (by omega) (by omega) (by omega) (fun o ho => hL o (prt_sub ho))) rfl) rfl rfl ?_
                refine Rv rfl rfl rfl (U_move rfl) rfl rfl ?_
                refine Rv rfl rfl rfl (U_move rfl) rfl rfl ?_
                refine Rv rfl rfl rfl (U_call rfl rfl (ih (prt L two one) (by omega) (by omega) (by omega) (fun o ho => hL o (prt_sub ho))) rfl) rfl rfl ?_
                refine Rv rfl rfl rfl (U_max (m := (((max (dpF n m (prt L one two)) (dpF n m (prt L two one))) : Nat) : Int)) rfl rfl (by omega)) rfl rfl ?_
                refine Rv rfl rfl rfl (U_add rfl rfl (w64e (m := (((1 + max ((dpF n m) (prt L one two)) ((dpF n m) (prt L two one))) : Nat) : Int)) (by omega) (by omega) (by omega))) rfl rfl ?_
                refine Rv rfl rfl rfl (U_min (m := (((min b2 (1 + max ((dpF n m) (prt L one two)) ((dpF n m) (prt L two one)))) : Nat) : Int)) rfl rfl (by omega)) rfl rfl ?_
                refine Rv rfl rfl rfl (U_assign rfl) rfl rfl ?_
                refine Re rfl ?_
                refine blkQ_n ?_
                refine thenQ_n ?_
                refine W_reg rfl ?_
                refine Rv rfl rfl rfl (U_move rfl) rfl rfl ?_
                refine Rv rfl rfl rfl (U_add rfl rfl (w64e (m := ((two + 1 : Nat) : Int)) (by omega) (by omega) (by omega))) rfl rfl ?_
                refine Rv rfl rfl rfl (U_assign rfl) rfl rfl ?_
                refine Re rfl ?_
                refine thenQ_n ?_
                exact againTo (T' := [(0, .ros (L.map natsL) L.length none), (1, i64 ((n : Nat) : Int)), (5, i64 ((k : Nat) : Int)), (6, i64 (((min b2 (1 + max ((dpF n m) (prt L one two)) ((dpF n m) (prt L two one)))) : Nat) : Int)), (7, i64 ((one : Nat) : Int)), (8, i64 (((two + 1) : Nat) : Int))]) (H' := []) (n := 0) (n - (two + 1)) ⟨two + 1, min b2 (1 + max ((dpF n m) (prt L one two)) ((dpF n m) (prt L two one))), (by omega), (by omega), (by rw [prR_S hi2_0, ← List.append_assoc, dpB_S, ← hi2_2]; exact hst), rfl, rfl⟩ (by omega) id ⟨eD rfl rfl, eD rfl rfl, eD rfl rfl, eD rfl rfl, eD rfl rfl, eD rfl rfl, trivial⟩ trivial rfl rfl rfl rfl (fun _ _ => rfl)
              · have hst : b2 = dpS (dpF n m) L b2 (one, two) := dpS_F (by omega)
                refine W_skip rfl ?_
                refine blkQ_n ?_
                refine thenQ_n ?_
                refine W_reg rfl ?_
                refine Rv rfl rfl rfl (U_move rfl) rfl rfl ?_
                refine Rv rfl rfl rfl (U_add rfl rfl (w64e (m := ((two + 1 : Nat) : Int)) (by omega) (by omega) (by omega))) rfl rfl ?_
                refine Rv rfl rfl rfl (U_assign rfl) rfl rfl ?_
                refine Re rfl ?_
                refine thenQ_n ?_
                exact againTo (T' := [(0, .ros (L.map natsL) L.length none), (1, i64 ((n : Nat) : Int)), (5, i64 ((k : Nat) : Int)), (6, i64 ((b2 : Nat) : Int)), (7, i64 ((one : Nat) : Int)), (8, i64 (((two + 1) : Nat) : Int))]) (H' := []) (n := 0) (n - (two + 1)) ⟨two + 1, b2, (by omega), (by omega), (by rw [prR_S hi2_0, ← List.append_assoc, dpB_S, ← hi2_2]; exact hst), rfl, rfl⟩ (by omega) id ⟨eD rfl rfl, eD rfl rfl, eD rfl rfl, eD rfl rfl, eD rfl rfl, eD rfl rfl, trivial⟩ trivial rfl rfl rfl rfl (fun _ _ => rfl)
            · rw [hg2]
              have hg2' : ¬ (0 < (((prt L one two).length : Nat) : Int)) := of_decide_eq_false hg2
              have hg2 := hg2'
              have hst : b2 = dpS (dpF n m) L b2 (one, two) := dpS_F (by omega)
              refine Rs rfl rfl rfl rfl rfl ?_
              refine Rs rfl rfl rfl rfl rfl ?_
              refine Rs rfl rfl rfl rfl rfl ?_
              refine Rv rfl rfl rfl (U_pick_f rfl rfl) rfl rfl ?_
              refine Re rfl ?_
              refine thenQ_n ?_
              refine Wcond rfl rfl (fun h => nomatch h) (fun _ => ?_)
              refine W_skip rfl ?_
              refine blkQ_n ?_
              refine thenQ_n ?_
              refine W_reg rfl ?_
              refine Rv rfl rfl rfl (U_move rfl) rfl rfl ?_
              refine Rv rfl rfl rfl (U_add rfl rfl (w64e (m := ((two + 1 : Nat) : Int)) (by omega) (by omega) (by omega))) rfl rfl ?_
              refine Rv rfl rfl rfl (U_assign rfl) rfl rfl ?_
              refine Re rfl ?_
              refine thenQ_n ?_
              exact againTo (T' := [(0, .ros (L.map natsL) L.length none), (1, i64 ((n : Nat) : Int)), (5, i64 ((k : Nat) : Int)), (6, i64 ((b2 : Nat) : Int)), (7, i64 ((one : Nat) : Int)), (8, i64 (((two + 1) : Nat) : Int))]) (H' := []) (n := 0) (n - (two + 1)) ⟨two + 1, b2, (by omega), (by omega), (by rw [prR_S hi2_0, ← List.append_assoc, dpB_S, ← hi2_2]; exact hst), rfl, rfl⟩ (by omega) id ⟨eD rfl rfl, eD rfl rfl, eD rfl rfl, eD rfl rfl, eD rfl rfl, eD rfl rfl, trivial⟩ trivial rfl rfl rfl rfl (fun _ _ => rfl)
          · rw [hg1]
            have hg1' : ¬ (((k : Nat) : Int) < ((b2 : Nat) : Int)) := of_decide_eq_false hg1
            have hg1 := hg1'
            have hst : b2 = dpS (dpF n m) L b2 (one, two) := dpS_F (by omega)
            refine Rs rfl rfl rfl rfl rfl ?_
            refine Rs rfl rfl rfl rfl rfl ?_
            refine Rs rfl rfl rfl rfl rfl ?_
            refine Rv rfl rfl rfl (U_pick_f rfl rfl) rfl rfl ?_
            refine Rv rfl rfl rfl (U_move rfl) rfl rfl ?_
            refine Rs rfl rfl rfl rfl rfl ?_
            refine Rs rfl rfl rfl rfl rfl ?_
            refine Rs rfl rfl rfl rfl rfl ?_
            refine Rv rfl rfl rfl (U_pick_f rfl rfl) rfl rfl ?_
            refine Re rfl ?_
            refine thenQ_n ?_
            refine Wcond rfl rfl (fun h => nomatch h) (fun _ => ?_)
            refine W_skip rfl ?_
            refine blkQ_n ?_
            refine thenQ_n ?_
            refine W_reg rfl ?_
            refine Rv rfl rfl rfl (U_move rfl) rfl rfl ?_
            refine Rv rfl rfl rfl (U_add rfl rfl (w64e (m := ((two + 1 : Nat) : Int)) (by omega) (by omega) (by omega))) rfl rfl ?_
            refine Rv rfl rfl rfl (U_assign rfl) rfl rfl ?_
            refine Re rfl ?_
            refine thenQ_n ?_
            exact againTo (T' := [(0, .ros (L.map natsL) L.length none), (1, i64 ((n : Nat) : Int)), (5, i64 ((k : Nat) : Int)), (6, i64 ((b2 : Nat) : Int)), (7, i64 ((one : Nat) : Int)), (8, i64 (((two + 1) : Nat) : Int))]) (H' := []) (n := 0) (n - (two + 1)) ⟨two + 1, b2, (by omega), (by omega), (by rw [prR_S hi2_0, ← List.append_assoc, dpB_S, ← hi2_2]; exact hst), rfl, rfl⟩ (by omega) id ⟨eD rfl rfl, eD rfl rfl, eD rfl rfl, eD rfl rfl, eD rfl rfl, eD rfl rfl, trivial⟩ trivial rfl rfl rfl rfl (fun _ _ => rfl)
        · refine W_exit rfl ?_
          refine thenQ_x ?_
          refine thenQ_x ?_
          refine blkQ_x rfl ?_
          refine blkQ_n ?_
          refine thenQ_n ?_
          refine W_reg rfl ?_
          refine Rv rfl rfl rfl (U_move rfl) rfl rfl ?_
          refine Rv rfl rfl rfl (U_add rfl rfl (w64e (m := ((one + 1 : Nat) : Int)) (by omega) (by omega) (by omega))) rfl rfl ?_
          refine Rv rfl rfl rfl (U_assign rfl) rfl rfl ?_
          refine Re rfl ?_
          refine thenQ_n ?_
          exact againTo (T' := [(0, .ros (L.map natsL) L.length none), (1, i64 ((n : Nat) : Int)), (5, i64 ((k : Nat) : Int)), (6, i64 ((b2 : Nat) : Int)), (7, i64 (((one + 1) : Nat) : Int))]) (H' := []) (n := 0) (n - (one + 1)) ⟨one + 1, b2, (by omega), (by rw [prK_S, show prR one n = prR one two by rw [show n = two by omega], ← hi2_2]), rfl, rfl⟩ (by omega) id ⟨eD rfl rfl, eD rfl rfl, eD rfl rfl, eD rfl rfl, eD rfl rfl, trivial⟩ trivial rfl rfl rfl rfl (fun _ _ => rfl)
      · obtain rfl : n = one := by omega
        refine W_exit rfl ?_
        refine thenQ_x ?_
        refine thenQ_x ?_
        refine blkQ_x rfl ?_
        refine thenQ_n ?_
        refine W_seq rfl ?_
        refine W_reg rfl ?_
        refine Rv rfl rfl rfl (U_move rfl) rfl rfl ?_
        refine Rv rfl rfl rfl (U_assign rfl) rfl rfl ?_
        refine Re rfl ?_
        refine thenQ_n ?_
        refine W_ret rfl ?_
        exact retL (rlT rfl rl0) (by first | rfl | (simp only [packA]; rw [hi1_1]; rfl; first | done | rfl) | (simp only [packA]; rw [hi1_1]; rfl; first | done | rfl)) rfl
    · have hI : 100 = dpI L := by rw [dpI, if_neg (by omega)]
      refine W_skip rfl ?_
      refine thenQ_n ?_
      refine W_seq rfl ?_
      refine W_seq rfl ?_
      refine W_reg rfl ?_
      refine Rv rfl rfl rfl (U_assign rfl) rfl rfl ?_
      refine Re rfl ?_
      refine thenQ_n ?_
      refine W_block rfl ?_
      refine LoopTo (T' := [(0, .ros (L.map natsL) L.length none), (1, i64 ((n : Nat) : Int)), (5, i64 ((k : Nat) : Int)), (6, i64 ((100 : Nat) : Int)), (7, i64 ((0 : Nat) : Int))]) (H' := []) (n := 0) rfl (fun mz_ qz_ => ∃ (one : Nat) (bs : Nat), one ≤ n ∧ bs = dpB (dpF n m) L (prK n one) ∧ mz_ = n - one ∧ qz_ = ⟨[(0, .ros (L.map natsL) L.length none), (1, i64 ((n : Nat) : Int)), (5, i64 ((k : Nat) : Int)), (6, i64 ((bs : Nat) : Int)), (7, i64 ((one : Nat) : Int))], [], 0, []⟩) ⟨0, 100, (by omega), hI, rfl, rfl⟩ id ⟨eD rfl rfl, eD rfl rfl, eD rfl rfl, eD rfl rfl, eD rfl rfl, trivial⟩ trivial rfl rfl rfl rfl (fun _ _ => rfl) ?_
      rintro _ _ ⟨one, bs, hi1_0, hi1_1, rfl, rfl⟩
      refine W_seq rfl ?_
      refine W_seq rfl ?_
      refine W_reg rfl ?_
      refine Rv rfl rfl rfl (U_move rfl) rfl rfl ?_
      refine Rv rfl rfl rfl (U_move rfl) rfl rfl ?_
      refine Rv rfl rfl rfl (U_lss rfl rfl) rfl rfl ?_
      refine Re rfl ?_
      refine thenQ_n ?_
      refine WcondP rfl rfl (fun hc2 => ?_) (fun hc2 => ?_)
      · refine W_skip rfl ?_
        refine thenQ_n ?_
        refine W_seq rfl ?_
        refine W_block rfl ?_
        refine W_seq rfl ?_
        refine W_reg rfl ?_
        refine Rv rfl rfl rfl (U_move rfl) rfl rfl ?_
        refine Rv rfl rfl rfl (U_add rfl rfl (w64e (m := ((one + 1 : Nat) : Int)) (by omega) (by omega) (by omega))) rfl rfl ?_
        refine Rv rfl rfl rfl (U_assign rfl) rfl rfl ?_
        refine Re rfl ?_
        refine thenQ_n ?_
        refine W_block rfl ?_
        refine LoopTo (T' := [(0, .ros (L.map natsL) L.length none), (1, i64 ((n : Nat) : Int)), (5, i64 ((k : Nat) : Int)), (6, i64 ((bs : Nat) : Int)), (7, i64 ((one : Nat) : Int)), (8, i64 (((one + 1) : Nat) : Int))]) (H' := []) (n := 0) rfl (fun mz_ qz_ => ∃ (two : Nat) (b2 : Nat), one + 1 ≤ two ∧ two ≤ n ∧ b2 = dpB (dpF n m) L (prK n one ++ prR one two) ∧ mz_ = n - two ∧ qz_ = ⟨[(0, .ros (L.map natsL) L.length none), (1, i64 ((n : Nat) : Int)), (5, i64 ((k : Nat) : Int)), (6, i64 ((b2 : Nat) : Int)), (7, i64 ((one : Nat) : Int)), (8, i64 ((two : Nat) : Int))], [], 0, []⟩) ⟨one + 1, bs, (Nat.le_refl _), (by omega), (by simp [prR]; exact hi1_1), rfl, rfl⟩ id ⟨eD rfl rfl, eD rfl rfl, eD rfl rfl, eD rfl rfl, eD rfl rfl, eD rfl rfl, trivial⟩ trivial rfl rfl rfl rfl (fun _ _ => rfl) ?_
        rintro _ _ ⟨two, b2, hi2_0, hi2_1, hi2_2, rfl, rfl⟩
        have hb2 : b2 ≤ 100 := by rw [hi2_2]; exact dpB_le _
        refine W_seq rfl ?_
        refine W_seq rfl ?_
        refine W_reg rfl ?_
        refine Rv rfl rfl rfl (U_move rfl) rfl rfl ?_
        refine Rv rfl rfl rfl (U_move rfl) rfl rfl ?_
        refine Rv rfl rfl rfl (U_lss rfl rfl) rfl rfl ?_
        refine Re rfl ?_
        refine thenQ_n ?_
        refine WcondP rfl rfl (fun hc3 => ?_) (fun hc3 => ?_)
        · have hp2 := prt_two (L := L) (x := one) (y := two)
          have hq1 : (dpF n m) (prt L one two) ≤ 100 := dpF_le
          have hq2 : (dpF n m) (prt L two one) ≤ 100 := dpF_le
          refine W_skip rfl ?_
          refine thenQ_n ?_
          refine W_seq rfl ?_
          refine W_block rfl ?_
          refine W_seq rfl ?_
          refine W_reg rfl ?_
          refine Rv rfl rfl rfl (U_move rfl) rfl rfl ?_
          refine Rv rfl rfl rfl (U_move rfl) rfl rfl ?_
          refine Rv rfl rfl rfl (U_move rfl) rfl rfl ?_
          refine Rv rfl rfl rfl (U_call rfl rfl (part_p L none one two (by omega) hL) rfl) rfl rfl ?_
          refine Rv rfl rfl rfl (U_move rfl) rfl rfl ?_
          refine Rv rfl rfl rfl (U_move rfl) rfl rfl ?_
          refine Rv rfl rfl rfl (U_move rfl) rfl rfl ?_
          refine Rv rfl rfl rfl (U_call rfl rfl (part_p L none two one (by omega) hL) rfl) rfl rfl ?_
          refine Rv rfl rfl rfl (U_assign rfl) rfl rfl ?_
          refine Rv rfl rfl rfl (U_assign rfl) rfl rfl ?_
          refine Re rfl ?_
          refine thenQ_n ?_
          refine W_seq rfl ?_
          refine W_reg rfl ?_
          refine Rv rfl rfl rfl (U_move rfl) rfl rfl ?_
          refine Rv rfl rfl rfl (U_move rfl) rfl rfl ?_
          refine Rv rfl rfl rfl (U_gtr rfl rfl) rfl rfl ?_
          refine Rv rfl rfl rfl (U_move rfl) rfl rfl ?_
          refine Rsplit (t := 43) rfl (fun hg3 => ?_) (fun hg3 => ?_)
          · rw [hg3]
            have hg3' : ((k : Nat) : Int) < ((b2 : Nat) : Int) := of_decide_eq_true hg3
            have hg1 := hg3'
            refine Rv rfl rfl rfl (U_move rfl) rfl rfl ?_
            refine Rv rfl rfl rfl (U_lenOf rfl len_ros) rfl rfl ?_
            refine Rv rfl rfl rfl (U_gtr rfl rfl) rfl rfl ?_
            refine Rv rfl rfl rfl (U_pick_t rfl rfl) rfl rfl ?_
            refine Rv rfl rfl rfl (U_move rfl) rfl rfl ?_
            refine Rsplit (t := 48) rfl (fun hg4 => ?_) (fun hg4 => ?_)
            · rw [hg4]
              have hg4' : 0 < (((prt L one two).length : Nat) : Int) := of_decide_eq_true hg4
              have hg2 := hg4'
              refine Rv rfl rfl rfl (U_move rfl) rfl rfl ?_
              refine Rv rfl rfl rfl (U_lenOf rfl len_ros) rfl rfl ?_
              refine Rv rfl rfl rfl (U_gtr rfl rfl) rfl rfl ?_
              refine Rv rfl rfl rfl (U_pick_t rfl rfl) rfl rfl ?_
              refine Re rfl ?_
              refine thenQ_n ?_
              refine WcondP rfl rfl (fun hc4 => ?_) (fun hc4 => ?_)
              · have hst : min b2 (1 + max ((dpF n m) (prt L one two)) ((dpF n m) (prt L two one))) = dpS (dpF n m) L b2 (one, two) := dpS_T (by omega) (by omega) (by omega)
                refine W_reg rfl ?_
                refine Rv rfl rfl rfl (U_move rfl) rfl rfl ?_
                refine Rv rfl rfl rfl (U_move rfl) rfl rfl ?_
                refine Rv rfl rfl rfl (U_move rfl) rfl rfl ?_
                refine Rv rfl rfl rfl (U_call rfl rfl (ih (prt L one two) (by omega) (by omega) (by omega) (fun o ho => hL o (prt_sub ho))) rfl) rfl rfl ?_
                refine Rv rfl rfl rfl (U_move rfl) rfl rfl ?_
                refine Rv rfl rfl rfl (U_move rfl) rfl rfl ?_
                refine Rv rfl rfl rfl (U_call rfl rfl (ih (prt L two one) (by omega) (by omega) (by omega) (fun o ho => hL o (prt_sub ho))) rfl) rfl rfl ?_
                refine Rv rfl rfl rfl (U_max (m := (((max (dpF n m (prt L one two)) (dpF n m (prt L two one))) : Nat) : Int)) rfl rfl (by omega)) rfl rfl ?_
                refine Rv rfl rfl rfl (U_add rfl rfl (w64e (m := (((1 + max ((dpF n m) (prt L one two)) ((dpF n m) (prt L two one))) : Nat) : Int)) (by omega) (by omega) (by omega))) rfl rfl ?_
                refine Rv rfl rfl rfl (U_min (m := (((min b2 (1 + max ((dpF n m) (prt L one two)) ((dpF n m) (prt L two one)))) : Nat) : Int)) rfl rfl (by omega)) rfl rfl ?_
                refine Rv rfl rfl rfl (U_assign rfl) rfl rfl ?_
                refine Re rfl ?_
                refine blkQ_n ?_
                refine thenQ_n ?_
                refine W_reg rfl ?_
                refine Rv rfl rfl rfl (U_move rfl) rfl rfl ?_
                refine Rv rfl rfl rfl (U_add rfl rfl (w64e (m := ((two + 1 : Nat) : Int)) (by omega) (by omega) (by omega))) rfl rfl ?_
                refine Rv rfl rfl rfl (U_assign rfl) rfl rfl ?_
                refine Re rfl ?_
                refine thenQ_n ?_
                exact againTo (T' := [(0, .ros (L.map natsL) L.length none), (1, i64 ((n : Nat) : Int)), (5, i64 ((k : Nat) : Int)), (6, i64 (((min b2 (1 + max ((dpF n m) (prt L one two)) ((dpF n m) (prt L two one)))) : Nat) : Int)), (7, i64 ((one : Nat) : Int)), (8, i64 (((two + 1) : Nat) : Int))]) (H' := []) (n := 0) (n - (two + 1)) ⟨two + 1, min b2 (1 + max ((dpF n m) (prt L one two)) ((dpF n m) (prt L two one))), (by omega), (by omega), (by rw [prR_S hi2_0, ← List.append_assoc, dpB_S, ← hi2_2]; exact hst), rfl, rfl⟩ (by omega) id ⟨eD rfl rfl, eD rfl rfl, eD rfl rfl, eD rfl rfl, eD rfl rfl, eD rfl rfl, trivial⟩ trivial rfl rfl rfl rfl (fun _ _ => rfl)
              · have hst : b2 = dpS (dpF n m) L b2 (one, two) := dpS_F (by omega)
                refine W_skip rfl ?_
                refine blkQ_n ?_
                refine thenQ_n ?_
                refine W_reg rfl ?_
                refine Rv rfl rfl rfl (U_move rfl) rfl rfl ?_
                refine Rv rfl rfl rfl (U_add rfl rfl (w64e (m := ((two + 1 : Nat) : Int)) (by omega) (by omega) (by omega))) rfl rfl ?_
                refine Rv rfl rfl rfl (U_assign rfl) rfl rfl ?_
                refine Re rfl ?_
                refine thenQ_n ?_
                exact againTo (T' := [(0, .ros (L.map natsL) L.length none), (1, i64 ((n : Nat) : Int)), (5, i64 ((k : Nat) : Int)), (6, i64 ((b2 : Nat) : Int)), (7, i64 ((one : Nat) : Int)), (8, i64 (((two + 1) : Nat) : Int))]) (H' := []) (n := 0) (n - (two + 1)) ⟨two + 1, b2, (by omega), (by omega), (by rw [prR_S hi2_0, ← List.append_assoc, dpB_S, ← hi2_2]; exact hst), rfl, rfl⟩ (by omega) id ⟨eD rfl rfl, eD rfl rfl, eD rfl rfl, eD rfl rfl, eD rfl rfl, eD rfl rfl, trivial⟩ trivial rfl rfl rfl rfl (fun _ _ => rfl)
            · rw [hg4]
              have hg4' : ¬ (0 < (((prt L one two).length : Nat) : Int)) := of_decide_eq_false hg4
              have hg2 := hg4'
              have hst : b2 = dpS (dpF n m) L b2 (one, two) := dpS_F (by omega)
              refine Rs rfl rfl rfl rfl rfl ?_
              refine Rs rfl rfl rfl rfl rfl ?_
              refine Rs rfl rfl rfl rfl rfl ?_
              refine Rv rfl rfl rfl (U_pick_f rfl rfl) rfl rfl ?_
              refine Re rfl ?_
              refine thenQ_n ?_
              refine Wcond rfl rfl (fun h => nomatch h) (fun _ => ?_)
              refine W_skip rfl ?_
              refine blkQ_n ?_
              refine thenQ_n ?_
              refine W_reg rfl ?_
              refine Rv rfl rfl rfl (U_move rfl) rfl rfl ?_
              refine Rv rfl rfl rfl (U_add rfl rfl (w64e (m := ((two + 1 : Nat) : Int)) (by omega) (by omega) (by omega))) rfl rfl ?_
              refine Rv rfl rfl rfl (U_assign rfl) rfl rfl ?_
              refine Re rfl ?_
              refine thenQ_n ?_
              exact againTo (T' := [(0, .ros (L.map natsL) L.length none), (1, i64 ((n : Nat) : Int)), (5, i64 ((k : Nat) : Int)), (6, i64 ((b2 : Nat) : Int)), (7, i64 ((one : Nat) : Int)), (8, i64 (((two + 1) : Nat) : Int))]) (H' := []) (n := 0) (n - (two + 1)) ⟨two + 1, b2, (by omega), (by omega), (by rw [prR_S hi2_0, ← List.append_assoc, dpB_S, ← hi2_2]; exact hst), rfl, rfl⟩ (by omega) id ⟨eD rfl rfl, eD rfl rfl, eD rfl rfl, eD rfl rfl, eD rfl rfl, eD rfl rfl, trivial⟩ trivial rfl rfl rfl rfl (fun _ _ => rfl)
          · rw [hg3]
            have hg3' : ¬ (((k : Nat) : Int) < ((b2 : Nat) : Int)) := of_decide_eq_false hg3
            have hg1 := hg3'
            have hst : b2 = dpS (dpF n m) L b2 (one, two) := dpS_F (by omega)
            refine Rs rfl rfl rfl rfl rfl ?_
            refine Rs rfl rfl rfl rfl rfl ?_
            refine Rs rfl rfl rfl rfl rfl ?_
            refine Rv rfl rfl rfl (U_pick_f rfl rfl) rfl rfl ?_
            refine Rv rfl rfl rfl (U_move rfl) rfl rfl ?_
            refine Rs rfl rfl rfl rfl rfl ?_
            refine Rs rfl rfl rfl rfl rfl ?_
            refine Rs rfl rfl rfl rfl rfl ?_
            refine Rv rfl rfl rfl (U_pick_f rfl rfl) rfl rfl ?_
            refine Re rfl ?_
            refine thenQ_n ?_
            refine Wcond rfl rfl (fun h => nomatch h) (fun _ => ?_)
            refine W_skip rfl ?_
            refine blkQ_n ?_
            refine thenQ_n ?_
            refine W_reg rfl ?_
            refine Rv rfl rfl rfl (U_move rfl) rfl rfl ?_
            refine Rv rfl rfl rfl (U_add rfl rfl (w64e (m := ((two + 1 : Nat) : Int)) (by omega) (by omega) (by omega))) rfl rfl ?_
            refine Rv rfl rfl rfl (U_assign rfl) rfl rfl ?_
            refine Re rfl ?_
            refine thenQ_n ?_
            exact againTo (T' := [(0, .ros (L.map natsL) L.length none), (1, i64 ((n : Nat) : Int)), (5, i64 ((k : Nat) : Int)), (6, i64 ((b2 : Nat) : Int)), (7, i64 ((one : Nat) : Int)), (8, i64 (((two + 1) : Nat) : Int))]) (H' := []) (n := 0) (n - (two + 1)) ⟨two + 1, b2, (by omega), (by omega), (by rw [prR_S hi2_0, ← List.append_assoc, dpB_S, ← hi2_2]; exact hst), rfl, rfl⟩ (by omega) id ⟨eD rfl rfl, eD rfl rfl, eD rfl rfl, eD rfl rfl, eD rfl rfl, eD rfl rfl, trivial⟩ trivial rfl rfl rfl rfl (fun _ _ => rfl)
        · refine W_exit rfl ?_
          refine thenQ_x ?_
          refine thenQ_x ?_
          refine blkQ_x rfl ?_
          refine blkQ_n ?_
          refine thenQ_n ?_
          refine W_reg rfl ?_
          refine Rv rfl rfl rfl (U_move rfl) rfl rfl ?_
          refine Rv rfl rfl rfl (U_add rfl rfl (w64e (m := ((one + 1 : Nat) : Int)) (by omega) (by omega) (by omega))) rfl rfl ?_
          refine Rv rfl rfl rfl (U_assign rfl) rfl rfl ?_
          refine Re rfl ?_
          refine thenQ_n ?_
          exact againTo (T' := [(0, .ros (L.map natsL) L.length none), (1, i64 ((n : Nat) : Int)), (5, i64 ((k : Nat) : Int)), (6, i64 ((b2 : Nat) : Int)), (7, i64 (((one + 1) : Nat) : Int))]) (H' := []) (n := 0) (n - (one + 1)) ⟨one + 1, b2, (by omega), (by rw [prK_S, show prR one n = prR one two by rw [show n = two by omega], ← hi2_2]), rfl, rfl⟩ (by omega) id ⟨eD rfl rfl, eD rfl rfl, eD rfl rfl, eD rfl rfl, eD rfl rfl, trivial⟩ trivial rfl rfl rfl rfl (fun _ _ => rfl)
      · obtain rfl : n = one := by omega
        refine W_exit rfl ?_
        refine thenQ_x ?_
        refine thenQ_x ?_
        refine blkQ_x rfl ?_
        refine thenQ_n ?_
        refine W_seq rfl ?_
        refine W_reg rfl ?_
        refine Rv rfl rfl rfl (U_move rfl) rfl rfl ?_
        refine Rv rfl rfl rfl (U_assign rfl) rfl rfl ?_
        refine Re rfl ?_
        refine thenQ_n ?_
        refine W_ret rfl ?_
        exact retL (rlT rfl rl0) (by first | rfl | (simp only [packA]; rw [hi1_1]; rfl; first | done | rfl) | (simp only [packA]; rw [hi1_1]; rfl; first | done | rfl)) rfl
theorem deep_m (n : Nat) (hn : n ≤ 10) : ∀ (m : Nat) (L : List (List Nat)), L.length ≤ m + 1 → L.length ≤ 1000 → (∀ o ∈ L, o.length ≤ 1000000) → Pure Try.prog 86 [ordsA L none, i64 (n : Nat)] (i64 ((dpF n (m + 1) L : Nat) : Int))
  | 0, L, h, h2, hL => deep_step n hn 0 (fun L h1 h2 _ _ => by omega) L h h2 hL
  | m + 1, L, h, h2, hL => deep_step n hn (m + 1) (fun L h1 h2 h20 h3 => deep_m n hn m L h2 h20 h3) L h h2 hL
end Go.Proofs.Ythmibifghihdaaa
end

section
namespace Go.Proofs.Ythmibifghihdaaa
set_option maxRecDepth 20000
open Go.AE
theorem arr_S {n i : Nat} {L : List (List Nat)} (hi : i < L.length) : (L.take (i + 1)).flatMap (fun o => nxtK n o n) = (L.take i).flatMap (fun o => nxtK n o n) ++ nxtK n L[i] n := by
  rw [List.take_succ_eq_append_getElem hi, List.flatMap_append]; simp
theorem nxt_ST {n s : Nat} {o : List Nat} (h : plc o s < 0) : nxtK n o (s + 1) = nxtK n o s ++ [o ++ [s]] := by
  simp [nxtK, List.range_succ, List.filter_append, h]
theorem nxt_SF {n s : Nat} {o : List Nat} (h : ¬ plc o s < 0) : nxtK n o (s + 1) = nxtK n o s := by
  simp [nxtK, List.range_succ, List.filter_append, h]
theorem nxt_le {n s : Nat} {o : List Nat} : (nxtK n o s).length ≤ s := by
  have := List.length_filter_le (fun a => decide (plc o a < 0)) (List.range s)
  rw [List.length_range] at this
  simpa [nxtK] using this
theorem fl_le {n : Nat} (hn : n ≤ 4) : ∀ (L : List (List Nat)), (L.flatMap fun o => nxtK n o n).length ≤ 4 * L.length
  | [] => by simp
  | o :: L => by
    have := fl_le hn L
    have := @nxt_le n n o
    rw [List.flatMap_cons, List.length_append, List.length_cons]; omega
theorem ord_S {L : List (List Nat)} {ks : List (Nat × Nat)} {k : Nat} (hk : k < L.length) : (L.take (k + 1)).filter (ordB ks) = if chkON ks L[k] = 0 then (L.take k).filter (ordB ks) ++ [L[k]] else (L.take k).filter (ordB ks) := by
  rw [List.take_succ_eq_append_getElem hk, List.filter_append]
  by_cases h : chkON ks L[k] = 0
  · rw [if_pos h]; simp [ordB, h]
  · rw [if_neg h]; simp [ordB, h]
theorem ord_le {L : List (List Nat)} {ks : List (Nat × Nat)} {k : Nat} : ((L.take k).filter (ordB ks)).length ≤ k := by
  have h1 := List.length_filter_le (ordB ks) (L.take k)
  have h2 := List.length_take_le k L
  omega
theorem orders_p (n : Nat) (ks : List (Nat × Nat)) (c : Option Nat) (hv : VB n ks) (h40 : ks.length ≤ 40) (hn4 : n ≤ 4) : Pure Try.prog 85 [bknA n ks c] (ordsA (ords n ks) none) := by
  have hv' := hv
  obtain ⟨hn1, hn, hkl, hk⟩ := hv'
  have hk2 := vb_lt hv
  refine pure_of_body Try.func85 (c := body Try.f85) rfl (by simp [Try.ntmps85]) fun w0 Φ0 => ?_
  refine W_seq rfl ?_
  refine W_reg rfl ?_
  refine Rv rfl rfl rfl (U_boxF rfl rfl rfl) rfl rfl ?_
  refine Rv rfl rfl rfl (U_assign rfl) rfl rfl ?_
  refine Re rfl ?_
  refine thenQ_n ?_
  refine W_seq rfl ?_
  refine W_reg rfl ?_
  refine Rv rfl rfl rfl (U_buildSliceF (by rfl) (by decide) rfl rfl rfl) rfl rfl ?_
  refine Rv rfl rfl rfl (U_assign rfl) rfl rfl ?_
  refine Re rfl ?_
  refine thenQ_n ?_
  refine W_seq rfl ?_
  refine W_block rfl ?_
  refine WweakT (j := 3) rfl (le_ros (l := [.nils]) (l' := [.ros [] 0 none]) (leL_cons (le_nils (cs := [])) (leL_refl _)) rfl) ?_
  refine LoopTo (T' := [(1, .rop [i64 ((n : Nat) : Int), .ros (ks.flatMap lkN) ks.length c] 0), (3, .ros ([[]].map natsL) [[]].length none)]) (H' := []) (n := 0) rfl (fun mz_ qz_ => ∃ (k : Nat) (L : List (List Nat)), k ≤ n ∧ L = arr n k ∧ mz_ = n - k ∧ qz_ = ⟨[(1, .rop [i64 ((n : Nat) : Int), .ros (ks.flatMap lkN) ks.length c] 0), (3, .ros (L.map natsL) L.length none)], [], 0, []⟩) ⟨0, [[]], (by omega), rfl, rfl, rfl⟩ id ⟨eD rfl rfl, eD rfl rfl, trivial⟩ trivial rfl rfl rfl rfl (fun _ _ => rfl) ?_
  rintro _ _ ⟨k, L, hi0_0, hi0_1, rfl, rfl⟩
  have hao : L.length ≤ 24 ∧ 0 < L.length ∧ ∀ o ∈ L, o.length = k ∧ ∀ x ∈ o, x < n := by rw [hi0_1]; exact arr_ok hn4 hi0_0
  have ha0 : 0 < L.length := hao.2.1
  have hal := (hao.2.2 _ (List.getElem_mem ha0)).1
  refine W_seq rfl ?_
  refine W_seq rfl ?_
  refine Wjoin ⟨[(1, .rop [i64 ((n : Nat) : Int), .ros (ks.flatMap lkN) ks.length c] 0), (3, .ros (L.map natsL) L.length none), (21, .bool ((decide (0 < ((L.length : Nat) : Int))) && (decide (((L[0].length : Nat) : Int) < ((n : Nat) : Int)))))], [], 0, []⟩ ?_ ?_
  · refine Wdraw rfl (by kernel_rfl) (by kernel_rfl) ?_
    refine Dv rfl rfl rfl (U_move rfl) rfl rfl ?_
    refine Dv rfl rfl rfl (U_lenOf rfl len_ros) rfl rfl ?_
    refine Dv rfl rfl rfl (U_gtr rfl rfl) rfl rfl ?_
    refine Dv rfl rfl rfl (U_move rfl) rfl rfl ?_
    refine Dsplit (t := 13) rfl (fun hg1 => ?_) (fun hg1 => ?_)
    · rw [hg1]
      have hg1' : 0 < ((L.length : Nat) : Int) := of_decide_eq_true hg1
      refine Dv rfl rfl rfl (U_move rfl) rfl rfl ?_
      have hx2 : 0 < L.length := by omega
      refine Dv rfl rfl rfl (U_indexR (j := 0) rfl rfl rfl hx2) rfl rfl ?_
      refine Dv rfl rfl rfl (U_load1 rfl rfl (getM hx2)) rfl rfl ?_
      refine Dv rfl rfl rfl (U_lenOf rfl len_ros) rfl rfl ?_
      refine Dv rfl rfl rfl (U_fieldAddrR rfl) rfl rfl ?_
      refine Dv rfl rfl rfl (U_load1 rfl rfl rfl) rfl rfl ?_
      refine Dv rfl rfl rfl (U_lss rfl rfl) rfl rfl ?_
      refine Dv rfl rfl rfl (U_pick_t rfl rfl) rfl rfl ?_
      refine Dr.nil rfl ?_
      exact joinTo id ⟨eD rfl rfl, eD rfl rfl, eD rfl rfl, trivial⟩ trivial rfl rfl rfl rfl (fun _ _ => rfl)
    · rw [hg1]
      have hg1' : ¬ (0 < ((L.length : Nat) : Int)) := of_decide_eq_false hg1
      refine Ds rfl rfl rfl rfl rfl ?_
      refine Ds rfl rfl rfl rfl rfl ?_
      refine Ds rfl rfl rfl rfl rfl ?_
      refine Ds rfl rfl rfl rfl rfl ?_
      refine Ds rfl rfl rfl rfl rfl ?_
      refine Ds rfl rfl rfl rfl rfl ?_
      refine Ds rfl rfl rfl rfl rfl ?_
      refine Dv rfl rfl rfl (U_pick_f rfl rfl) rfl rfl ?_
      refine Dr.nil rfl ?_
      exact joinTo id ⟨eD rfl rfl, eD rfl rfl, eD rfl rfl, trivial⟩ trivial rfl rfl rfl rfl (fun _ _ => rfl)
  refine thenQ_n ?_
  refine Wcond rfl rfl (fun hc0 => ?_) (fun hc0 => ?_)
  · have hkn : k < n := by rw [Bool.and_eq_true, decide_eq_true_eq, decide_eq_true_eq] at hc0; omega
    refine W_skip rfl ?_
    refine thenQ_n ?_
    refine W_block rfl ?_
    refine W_seq rfl ?_
    refine W_reg rfl ?_
    refine Rv rfl rfl rfl (U_assign rfl) rfl rfl ?_
    refine Re rfl ?_
    refine thenQ_n ?_
    refine W_seq rfl ?_
    refine W_seq rfl ?_
    refine W_reg rfl ?_
    refine Rv rfl rfl rfl (U_assign rfl) rfl rfl ?_
    refine Re rfl ?_
    refine thenQ_n ?_
    refine W_block rfl ?_
    refine LoopTo (T' := [(1, .rop [i64 ((n : Nat) : Int), .ros (ks.flatMap lkN) ks.length c] 0), (3, .ros (L.map natsL) L.length none), (4, .out 0 [].length 1), (5, i64 ((0 : Nat) : Int))]) (H' := [(0, outB ([].map natsL) 25 [].length)]) (n := 1) rfl (fun mz_ qz_ => ∃ (i : Nat) (P : List (List Nat)), i ≤ L.length ∧ (P = (L.take i).flatMap (fun o => nxtK n o n)) ∧ mz_ = L.length - i ∧ qz_ = ⟨[(1, .rop [i64 ((n : Nat) : Int), .ros (ks.flatMap lkN) ks.length c] 0), (3, .ros (L.map natsL) L.length none), (4, .out 0 P.length 1), (5, i64 ((i : Nat) : Int))], [(0, outB (P.map natsL) 25 P.length)], 1, []⟩) ⟨0, [], (by omega), rfl, rfl, rfl⟩ id ⟨eD rfl rfl, eD rfl rfl, eW rfl le_nils_out rfl, eD rfl rfl, trivial⟩ ⟨rO0 rfl, trivial⟩ rfl rfl rfl rfl (fun _ _ => rfl) ?_
    rintro _ _ ⟨i, P, hi1_0, hi1_1, rfl, rfl⟩
    refine W_seq rfl ?_
    refine W_seq rfl ?_
    refine W_reg rfl ?_
    refine Rv rfl rfl rfl (U_move rfl) rfl rfl ?_
    refine Rv rfl rfl rfl (U_move rfl) rfl rfl ?_
    refine Rv rfl rfl rfl (U_lenOf rfl len_ros) rfl rfl ?_
    refine Rv rfl rfl rfl (U_lss rfl rfl) rfl rfl ?_
    refine Re rfl ?_
    refine thenQ_n ?_
    refine WcondP rfl rfl (fun hc1 => ?_) (fun hc1 => ?_)
    · have hci : i < L.length := by omega
      have hil := (hao.2.2 _ (List.getElem_mem hci)).1
      refine W_skip rfl ?_
      refine thenQ_n ?_
      refine W_seq rfl ?_
      refine W_block rfl ?_
      refine W_seq rfl ?_
      refine W_reg rfl ?_
      refine Rv rfl rfl rfl (U_assign rfl) rfl rfl ?_
      refine Re rfl ?_
      refine thenQ_n ?_
      refine W_block rfl ?_
      refine LoopTo (T' := [(1, .rop [i64 ((n : Nat) : Int), .ros (ks.flatMap lkN) ks.length c] 0), (3, .ros (L.map natsL) L.length none), (4, .out 0 P.length 1), (5, i64 ((i : Nat) : Int)), (6, i64 ((0 : Nat) : Int))]) (H' := [(0, outB (P.map natsL) 25 P.length)]) (n := 1) rfl (fun mz_ qz_ => ∃ (s : Nat) (Q : List (List Nat)), s ≤ n ∧ Q = P ++ nxtK n L[i] s ∧ mz_ = n - s ∧ qz_ = ⟨[(1, .rop [i64 ((n : Nat) : Int), .ros (ks.flatMap lkN) ks.length c] 0), (3, .ros (L.map natsL) L.length none), (4, .out 0 Q.length 1), (5, i64 ((i : Nat) : Int)), (6, i64 ((s : Nat) : Int))], [(0, outB (Q.map natsL) 25 Q.length)], 1, []⟩) ⟨0, P, (by omega), (by simp [nxtK]), rfl, rfl⟩ id ⟨eD rfl rfl, eD rfl rfl, e_ rfl rfl, eD rfl rfl, eD rfl rfl, trivial⟩ ⟨rO (mapD (fun _ => rfl) _) rfl rfl, trivial⟩ rfl rfl rfl rfl (fun _ _ => rfl) ?_
      rintro _ _ ⟨s, Q, hi2_0, hi2_1, rfl, rfl⟩
      have hQl : Q.length ≤ 4 * 24 + n := by rw [hi2_1, List.length_append]; have h1 := fl_le (n := n) hn4 (L.take i); rw [← hi1_1] at h1; have h2 := @nxt_le n s L[i]; have h3 := List.length_take_le i L; omega
      refine W_seq rfl ?_
      refine W_seq rfl ?_
      refine W_reg rfl ?_
      refine Rv rfl rfl rfl (U_move rfl) rfl rfl ?_
      refine Rv rfl rfl rfl (U_fieldAddrR rfl) rfl rfl ?_
      refine Rv rfl rfl rfl (U_load1 rfl rfl rfl) rfl rfl ?_
      refine Rv rfl rfl rfl (U_lss rfl rfl) rfl rfl ?_
      refine Re rfl ?_
      refine thenQ_n ?_
      refine WcondP rfl rfl (fun hc2 => ?_) (fun hc2 => ?_)
      · refine W_skip rfl ?_
        refine thenQ_n ?_
        refine W_seq rfl ?_
        refine W_block rfl ?_
        refine W_seq rfl ?_
        refine W_reg rfl ?_
        refine Rv rfl rfl rfl (U_move rfl) rfl rfl ?_
        refine Rv rfl rfl rfl (U_move rfl) rfl rfl ?_
        have hx3 : i < L.length := by omega
        refine Rv rfl rfl rfl (U_indexR (j := i) rfl rfl rfl hx3) rfl rfl ?_
        refine Rv rfl rfl rfl (U_load1 rfl rfl (getM hx3)) rfl rfl ?_
        refine Rv rfl rfl rfl (U_move rfl) rfl rfl ?_
        refine Rv rfl rfl rfl (U_call rfl rfl (place_p L[i] none s (by first | assumption | omega)) rfl) rfl rfl ?_
        refine Rv rfl rfl rfl (U_lss rfl rfl) rfl rfl ?_
        refine Re rfl ?_
        refine thenQ_n ?_
        refine WcondP rfl rfl (fun hc3 => ?_) (fun hc3 => ?_)
        · have hcs : L[i].length = 0 ∨ 0 < L[i].length := by omega
          rcases hcs with hpz | hpz
          · have hpn : L[i] = [] := List.length_eq_zero_iff.1 hpz
            refine W_reg rfl ?_
            refine Rv rfl rfl rfl (U_move rfl) rfl rfl ?_
            refine Rv rfl rfl rfl (U_buildSliceF (by rfl) (by decide) rfl rfl rfl) rfl rfl ?_
            refine Rv rfl rfl rfl (U_move rfl) rfl rfl ?_
            refine Rv rfl rfl rfl (U_move rfl) rfl rfl ?_
            refine Rv rfl rfl rfl (U_indexR (j := i) rfl rfl rfl hx3) rfl rfl ?_
            refine Rv rfl rfl rfl (U_load1 rfl rfl (getM hx3)) rfl rfl ?_
            refine Rv rfl rfl rfl (U_app0G rfl rfl lenk_ros (len0_ros hpz)) rfl rfl ?_
            refine Rv rfl rfl rfl (U_move rfl) rfl rfl ?_
            refine Rv rfl rfl rfl (U_buildSliceF (by rfl) (by decide) rfl rfl rfl) rfl rfl ?_
            refine Ra rfl rfl rfl (OpU.frz (b := 1) (U_appL (news := (L[i] ++ [s]).map n64) (n' := (L[i] ++ [s]).length) rfl rfl rfl rfl (by rw [hpn]; rfl) (by simp) (by simp <;> omega) (by rw [hpn]; rfl)) rfl (by first | (simp; done) | (simp; omega) | omega) (mapD (fun _ => rfl) _) (Nat.le_refl _) (Nat.lt_succ_self _)) rfl rfl rfl ?_
            refine Rv rfl rfl rfl (U_buildSliceF (by rfl) (by decide) rfl rfl rfl) rfl rfl ?_
            refine Ra rfl rfl rfl (U_appO (b := 0) (m := 0) (cs' := (Q ++ [L[i] ++ [s]]).map natsL) (n' := (Q ++ [L[i] ++ [s]]).length) rfl rfl (by simp) rfl (map_len1 _) rfl rfl (by omega) (appM _ _) (len1 _ _)) rfl rfl rfl ?_
            refine Rv rfl rfl rfl (U_assign rfl) rfl rfl ?_
            refine Re rfl ?_
            refine blkQ_n ?_
            refine thenQ_n ?_
            refine W_reg rfl ?_
            refine Rv rfl rfl rfl (U_move rfl) rfl rfl ?_
            refine Rv rfl rfl rfl (U_add rfl rfl (w64e (m := ((s + 1 : Nat) : Int)) (by omega) (by omega) (by omega))) rfl rfl ?_
            refine Rv rfl rfl rfl (U_assign rfl) rfl rfl ?_
            refine Re rfl ?_
            refine thenQ_n ?_
            exact againTo (T' := [(1, .rop [i64 ((n : Nat) : Int), .ros (ks.flatMap lkN) ks.length c] 0), (3, .ros (L.map natsL) L.length none), (4, .out 0 (Q ++ [L[i] ++ [s]]).length 1), (5, i64 ((i : Nat) : Int)), (6, i64 (((s + 1) : Nat) : Int))]) (H' := [(0, outB ((Q ++ [L[i] ++ [s]]).map natsL) 25 (Q ++ [L[i] ++ [s]]).length)]) (n := 1) (n - (s + 1)) ⟨s + 1, Q ++ [L[i] ++ [s]], (by omega), (by first | rw [nxt_ST hc3, ← List.append_assoc, ← hi2_1] | rw [nxt_SF hc3, ← hi2_1]), rfl, rfl⟩ (by omega) (mapN [2]) ⟨eD rfl rfl, eD rfl rfl, e_ rfl rfl, eD rfl rfl, eD rfl rfl, trivial⟩ ⟨rO (mapD (fun _ => rfl) _) rfl rfl, trivial⟩ rfl rfl rfl rfl (fun _ h => absurd h (Nat.not_lt_zero _))
          · have hpn := hpz
            refine W_reg rfl ?_
            refine Rv rfl rfl rfl (U_move rfl) rfl rfl ?_
            refine Rv rfl rfl rfl (U_buildSliceF (by rfl) (by decide) rfl rfl rfl) rfl rfl ?_
            refine Rv rfl rfl rfl (U_move rfl) rfl rfl ?_
            refine Rv rfl rfl rfl (U_move rfl) rfl rfl ?_
            refine Rv rfl rfl rfl (U_indexR (j := i) rfl rfl rfl hx3) rfl rfl ?_
            refine Rv rfl rfl rfl (U_load1 rfl rfl (getM hx3)) rfl rfl ?_
            refine Ra rfl rfl rfl (U_appL (n' := L[i].length) rfl rfl rfl rfl (srcR (map_len1 _)) (by omega) (by omega) rfl) rfl rfl rfl ?_
            refine Rv rfl rfl rfl (U_move rfl) rfl rfl ?_
            refine Rv rfl rfl rfl (U_buildSliceF (by rfl) (by decide) rfl rfl rfl) rfl rfl ?_
            refine Ra rfl rfl rfl (OpU.frz (b := 2) (U_appO (b := 1) (m := 0) (cs' := (L[i] ++ [s]).map n64) (n' := (L[i] ++ [s]).length) rfl rfl (by simp) rfl (map_len1 _) rfl rfl (by omega) (appM _ _) (len1 _ _)) rfl (by first | (simp; done) | (simp; omega) | omega) (mapD (fun _ => rfl) _) (Nat.le_refl _) (Nat.lt_succ_self _)) rfl rfl rfl ?_
            refine Rv rfl rfl rfl (U_buildSliceF (by rfl) (by decide) rfl rfl rfl) rfl rfl ?_
            refine Ra rfl rfl rfl (U_appO (b := 0) (m := 0) (cs' := (Q ++ [L[i] ++ [s]]).map natsL) (n' := (Q ++ [L[i] ++ [s]]).length) rfl rfl (by simp) rfl (map_len1 _) rfl rfl (by omega) (appM _ _) (len1 _ _)) rfl rfl rfl ?_
            refine Rv rfl rfl rfl (U_assign rfl) rfl rfl ?_
            refine Re rfl ?_
            refine blkQ_n ?_
            refine thenQ_n ?_
            refine W_reg rfl ?_
            refine Rv rfl rfl rfl (U_move rfl) rfl rfl ?_
            refine Rv rfl rfl rfl (U_add rfl rfl (w64e (m := ((s + 1 : Nat) : Int)) (by omega) (by omega) (by omega))) rfl rfl ?_
            refine Rv rfl rfl rfl (U_assign rfl) rfl rfl ?_
            refine Re rfl ?_
            refine thenQ_n ?_
            exact againTo (T' := [(1, .rop [i64 ((n : Nat) : Int), .ros (ks.flatMap lkN) ks.length c] 0), (3, .ros (L.map natsL) L.length none), (4, .out 0 (Q ++ [L[i] ++ [s]]).length 1), (5, i64 ((i : Nat) : Int)), (6, i64 (((s + 1) : Nat) : Int))]) (H' := [(0, outB ((Q ++ [L[i] ++ [s]]).map natsL) 25 (Q ++ [L[i] ++ [s]]).length)]) (n := 1) (n - (s + 1)) ⟨s + 1, Q ++ [L[i] ++ [s]], (by omega), (by first | rw [nxt_ST hc3, ← List.append_assoc, ← hi2_1] | rw [nxt_SF hc3, ← hi2_1]), rfl, rfl⟩ (by omega) (mapN [3]) ⟨eD rfl rfl, eD rfl rfl, e_ rfl rfl, eD rfl rfl, eD rfl rfl, trivial⟩ ⟨rO (mapD (fun _ => rfl) _) rfl rfl, trivial⟩ rfl rfl rfl rfl (fun _ h => absurd h (Nat.not_lt_zero _))
        · refine W_skip rfl ?_
          refine blkQ_n ?_
          refine thenQ_n ?_
          refine W_reg rfl ?_
          refine Rv rfl rfl rfl (U_move rfl) rfl rfl ?_
          refine Rv rfl rfl rfl (U_add rfl rfl (w64e (m := ((s + 1 : Nat) : Int)) (by omega) (by omega) (by omega))) rfl rfl ?_
          refine Rv rfl rfl rfl (U_assign rfl) rfl rfl ?_
          refine Re rfl ?_
          refine thenQ_n ?_
          exact againTo (T' := [(1, .rop [i64 ((n : Nat) : Int), .ros (ks.flatMap lkN) ks.length c] 0), (3, .ros (L.map natsL) L.length none), (4, .out 0 Q.length 1), (5, i64 ((i : Nat) : Int)), (6, i64 (((s + 1) : Nat) : Int))]) (H' := [(0, outB (Q.map natsL) 25 Q.length)]) (n := 1) (n - (s + 1)) ⟨s + 1, Q, (by omega), (by first | rw [nxt_ST hc3, ← List.append_assoc, ← hi2_1] | rw [nxt_SF hc3, ← hi2_1]), rfl, rfl⟩ (by omega) id ⟨eD rfl rfl, eD rfl rfl, e_ rfl rfl, eD rfl rfl, eD rfl rfl, trivial⟩ ⟨rO (mapD (fun _ => rfl) _) rfl rfl, trivial⟩ rfl rfl rfl rfl (fun _ _ => rfl)
      · refine W_exit rfl ?_
        refine thenQ_x ?_
        refine thenQ_x ?_
        refine blkQ_x rfl ?_
        refine blkQ_n ?_
        refine thenQ_n ?_
        refine W_reg rfl ?_
        refine Rv rfl rfl rfl (U_move rfl) rfl rfl ?_
        refine Rv rfl rfl rfl (U_add rfl rfl (w64e (m := ((i + 1 : Nat) : Int)) (by omega) (by omega) (by omega))) rfl rfl ?_
        refine Rv rfl rfl rfl (U_assign rfl) rfl rfl ?_
        refine Re rfl ?_
        refine thenQ_n ?_
        exact againTo (T' := [(1, .rop [i64 ((n : Nat) : Int), .ros (ks.flatMap lkN) ks.length c] 0), (3, .ros (L.map natsL) L.length none), (4, .out 0 Q.length 1), (5, i64 (((i + 1) : Nat) : Int))]) (H' := [(0, outB (Q.map natsL) 25 Q.length)]) (n := 1) (L.length - (i + 1)) ⟨i + 1, Q, (by omega), (by rw [arr_S hci, ← hi1_1, hi2_1, show s = n by omega]), rfl, rfl⟩ (by omega) id ⟨eD rfl rfl, eD rfl rfl, e_ rfl rfl, eD rfl rfl, trivial⟩ ⟨rO (mapD (fun _ => rfl) _) rfl rfl, trivial⟩ rfl rfl rfl rfl (fun _ _ => rfl)
    · have hP : P = arr n (k + 1) := by rw [hi1_1, List.take_of_length_le (by omega), hi0_1]; rfl
      refine W_exit rfl ?_
      refine thenQ_x ?_
      refine thenQ_x ?_
      refine blkQ_x rfl ?_
      refine thenQ_n ?_
      refine WfrO 0 (P.map natsL) rfl (mapD (fun _ => rfl) _) (T' := [(1, .rop [i64 ((n : Nat) : Int), .ros (ks.flatMap lkN) ks.length c] 0), (4, .ros (P.map natsL) P.length none)]) (H' := []) ⟨fD rfl rfl, fO rfl, trivial⟩ trivial ?_
      refine W_reg rfl ?_
      refine Rv rfl rfl rfl (U_move rfl) rfl rfl ?_
      refine Rv rfl rfl rfl (U_assign rfl) rfl rfl ?_
      refine Re rfl ?_
      refine blkQ_n ?_
      refine thenQ_n ?_
      exact againTo (T' := [(1, .rop [i64 ((n : Nat) : Int), .ros (ks.flatMap lkN) ks.length c] 0), (3, .ros (P.map natsL) P.length none)]) (H' := []) (n := 0) (n - (k + 1)) ⟨k + 1, P, (by omega), hP, rfl, rfl⟩ (by omega) id ⟨eD rfl rfl, eD rfl rfl, trivial⟩ trivial rfl rfl rfl rfl (fun _ _ => rfl)
  · have hc0' := Bool.eq_false_iff.1 hc0
    have hkn : k = n := by rw [decide_eq_true (by omega), Bool.true_and, decide_eq_false_iff_not] at hc0; omega
    have hLn : L = arr n n := by rw [hi0_1, hkn]
    refine W_exit rfl ?_
    refine thenQ_x ?_
    refine thenQ_x ?_
    refine blkQ_x rfl ?_
    refine thenQ_n ?_
    refine W_seq rfl ?_
    refine W_reg rfl ?_
    refine Rv rfl rfl rfl (U_assign rfl) rfl rfl ?_
    refine Re rfl ?_
    refine thenQ_n ?_
    refine W_seq rfl ?_
    refine W_seq rfl ?_
    refine W_reg rfl ?_
    refine Rv rfl rfl rfl (U_assign rfl) rfl rfl ?_
    refine Re rfl ?_
    refine thenQ_n ?_
    refine W_block rfl ?_
    refine LoopTo (T' := [(1, .rop [i64 ((n : Nat) : Int), .ros (ks.flatMap lkN) ks.length c] 0), (3, .ros (L.map natsL) L.length none), (7, .out 0 [].length 1), (8, i64 ((0 : Nat) : Int))]) (H' := [(0, outB ([].map natsL) 25 [].length)]) (n := 1) rfl (fun mz_ qz_ => ∃ (j : Nat) (G : List (List Nat)), j ≤ L.length ∧ G = (L.take j).filter (ordB ks) ∧ mz_ = L.length - j ∧ qz_ = ⟨[(1, .rop [i64 ((n : Nat) : Int), .ros (ks.flatMap lkN) ks.length c] 0), (3, .ros (L.map natsL) L.length none), (7, .out 0 G.length 1), (8, i64 ((j : Nat) : Int))], [(0, outB (G.map natsL) 25 G.length)], 1, []⟩) ⟨0, [], (by omega), rfl, rfl, rfl⟩ id ⟨eD rfl rfl, eD rfl rfl, eW rfl le_nils_out rfl, eD rfl rfl, trivial⟩ ⟨rO0 rfl, trivial⟩ rfl rfl rfl rfl (fun _ _ => rfl) ?_
    rintro _ _ ⟨j, G, hi3_0, hi3_1, rfl, rfl⟩
    have hGl : G.length ≤ j := by rw [hi3_1]; exact ord_le
    refine W_seq rfl ?_
    refine W_seq rfl ?_
    refine W_reg rfl ?_
    refine Rv rfl rfl rfl (U_move rfl) rfl rfl ?_
    refine Rv rfl rfl rfl (U_move rfl) rfl rfl ?_
    refine Rv rfl rfl rfl (U_lenOf rfl len_ros) rfl rfl ?_
    refine Rv rfl rfl rfl (U_lss rfl rfl) rfl rfl ?_
    refine Re rfl ?_
    refine thenQ_n ?_
    refine WcondP rfl rfl (fun hc4 => ?_) (fun hc4 => ?_)
    · have hcj : j < L.length := by omega
      have hjo := hao.2.2 _ (List.getElem_mem hcj)
      have hj2 := hjo.2
      have hj1 := hjo.1
      refine W_skip rfl ?_
      refine thenQ_n ?_
      refine W_seq rfl ?_
      refine W_block rfl ?_
      refine W_seq rfl ?_
      refine Wdraw rfl (by kernel_rfl) (by kernel_rfl) ?_
      refine Dv rfl rfl rfl (U_load2 rfl rfl rfl rfl) rfl rfl ?_
      refine Dv rfl rfl rfl (U_move rfl) rfl rfl ?_
      refine Dv rfl rfl rfl (U_move rfl) rfl rfl ?_
      have hx4 : j < L.length := by omega
      refine Dv rfl rfl rfl (U_indexR (j := j) rfl rfl rfl hx4) rfl rfl ?_
      refine Dv rfl rfl rfl (U_load1 rfl rfl (getM hx4)) rfl rfl ?_
      refine Dv rfl rfl rfl (U_call rfl rfl (checkOrderR_n n ks c hv h40 L[j] none (by omega) (by assumption) (by omega)) rfl) rfl rfl ?_
      refine Dv rfl rfl rfl (U_eql rfl rfl) rfl rfl ?_
      refine Dr.nil rfl ?_
      refine thenQ_n ?_
      refine WcondP rfl rfl (fun hc5 => ?_) (fun hc5 => ?_)
      · refine W_reg rfl ?_
        refine Rv rfl rfl rfl (U_move rfl) rfl rfl ?_
        refine Rv rfl rfl rfl (U_move rfl) rfl rfl ?_
        refine Rv rfl rfl rfl (U_move rfl) rfl rfl ?_
        refine Rv rfl rfl rfl (U_indexR (j := j) rfl rfl rfl hx4) rfl rfl ?_
        refine Rv rfl rfl rfl (U_load1 rfl rfl (getM hx4)) rfl rfl ?_
        refine Rv rfl rfl rfl (U_buildSliceF (by rfl) (by decide) rfl rfl rfl) rfl rfl ?_
        refine Ra rfl rfl rfl (U_appO (b := 0) (m := 0) (cs' := (G ++ [L[j]]).map natsL) (n' := (G ++ [L[j]]).length) rfl rfl (by simp) rfl (map_len1 _) rfl rfl (by omega) (appM _ _) (len1 _ _)) rfl rfl rfl ?_
        refine Rv rfl rfl rfl (U_assign rfl) rfl rfl ?_
        refine Re rfl ?_
        refine blkQ_n ?_
        refine thenQ_n ?_
        refine W_reg rfl ?_
        refine Rv rfl rfl rfl (U_move rfl) rfl rfl ?_
        refine Rv rfl rfl rfl (U_add rfl rfl (w64e (m := ((j + 1 : Nat) : Int)) (by omega) (by omega) (by omega))) rfl rfl ?_
        refine Rv rfl rfl rfl (U_assign rfl) rfl rfl ?_
        refine Re rfl ?_
        refine thenQ_n ?_
        exact againTo (T' := [(1, .rop [i64 ((n : Nat) : Int), .ros (ks.flatMap lkN) ks.length c] 0), (3, .ros (L.map natsL) L.length none), (7, .out 0 (G ++ [L[j]]).length 1), (8, i64 (((j + 1) : Nat) : Int))]) (H' := [(0, outB ((G ++ [L[j]]).map natsL) 25 (G ++ [L[j]]).length)]) (n := 1) (L.length - (j + 1)) ⟨j + 1, G ++ [L[j]], (by omega), (by first | rw [ord_S hcj, if_pos hc5, ← hi3_1] | rw [ord_S hcj, if_neg hc5, ← hi3_1]), rfl, rfl⟩ (by omega) (mapN [1]) ⟨eD rfl rfl, eD rfl rfl, e_ rfl rfl, eD rfl rfl, trivial⟩ ⟨rO (mapD (fun _ => rfl) _) rfl rfl, trivial⟩ rfl rfl rfl rfl (fun _ h => absurd h (Nat.not_lt_zero _))
      · refine W_skip rfl ?_
        refine blkQ_n ?_
        refine thenQ_n ?_
        refine W_reg rfl ?_
        refine Rv rfl rfl rfl (U_move rfl) rfl rfl ?_
        refine Rv rfl rfl rfl (U_add rfl rfl (w64e (m := ((j + 1 : Nat) : Int)) (by omega) (by omega) (by omega))) rfl rfl ?_
        refine Rv rfl rfl rfl (U_assign rfl) rfl rfl ?_
        refine Re rfl ?_
        refine thenQ_n ?_
        exact againTo (T' := [(1, .rop [i64 ((n : Nat) : Int), .ros (ks.flatMap lkN) ks.length c] 0), (3, .ros (L.map natsL) L.length none), (7, .out 0 G.length 1), (8, i64 (((j + 1) : Nat) : Int))]) (H' := [(0, outB (G.map natsL) 25 G.length)]) (n := 1) (L.length - (j + 1)) ⟨j + 1, G, (by omega), (by first | rw [ord_S hcj, if_pos hc5, ← hi3_1] | rw [ord_S hcj, if_neg hc5, ← hi3_1]), rfl, rfl⟩ (by omega) id ⟨eD rfl rfl, eD rfl rfl, e_ rfl rfl, eD rfl rfl, trivial⟩ ⟨rO (mapD (fun _ => rfl) _) rfl rfl, trivial⟩ rfl rfl rfl rfl (fun _ _ => rfl)
    · have hG : G = ords n ks := by rw [hi3_1, List.take_of_length_le (by omega), hLn]; rfl
      refine W_exit rfl ?_
      refine thenQ_x ?_
      refine thenQ_x ?_
      refine blkQ_x rfl ?_
      refine thenQ_n ?_
      refine W_seq rfl ?_
      refine W_reg rfl ?_
      refine Rv rfl rfl rfl (U_move rfl) rfl rfl ?_
      refine Rv rfl rfl rfl (U_assign rfl) rfl rfl ?_
      refine Re rfl ?_
      refine thenQ_n ?_
      refine WfrO 0 (G.map natsL) rfl (mapD (fun _ => rfl) _) (T' := [(2, .ros (G.map natsL) G.length none)]) (H' := []) ⟨fO rfl, trivial⟩ trivial ?_
      refine W_ret rfl ?_
      exact retL (rlT rfl rl0) (by first | rfl | (simp only [packA]; rw [hG]; first | done | rfl)) rfl
end Go.Proofs.Ythmibifghihdaaa
end

section
namespace Go.Proofs.Ythmibifghihdaaa
set_option maxRecDepth 20000
open Go.AE
theorem dpQ_p (n : Nat) (hn : n ≤ 4) (L : List (List Nat)) (hL : L.length ≤ 24) (h : ∀ o ∈ L, o.length = n) : Pure Try.prog 86 [ordsA L none, i64 (n : Nat)] (i64 ((dpQ n L : Nat) : Int)) := deep_m n (by omega) 23 L hL (by omega) fun o ho => by rw [h o ho]; omega
theorem prt_p (n : Nat) (hn : n ≤ 4) (L : List (List Nat)) (hL : L.length ≤ 24) (h : ∀ o ∈ L, o.length = n) (x y : Nat) : Pure Try.prog 87 [ordsA L none, i64 (x : Nat), i64 (y : Nat)] (ordsA (prt L x y) none) := part_p L none x y (by omega) fun o ho => by rw [h o ho]; omega
theorem prR_pre {a m t : Nat} (h : a + 1 ≤ t) (h2 : t ≤ m) : ∃ r, prR a m = prR a t ++ r := by
  unfold prR
  obtain ⟨d, rfl⟩ : ∃ d, m = t + d := ⟨m - t, by omega⟩
  refine ⟨(List.range' t d).map fun b => (a, b), ?_⟩
  rw [← List.map_append]
  have := List.range'_append_1 (s := a + 1) (m := t - (a + 1)) (n := d)
  rw [show a + 1 + (t - (a + 1)) = t by omega, show t - (a + 1) + d = t + d - (a + 1) by omega] at this
  rw [this]
theorem prK_pre {n i j : Nat} (h : i ≤ j) : ∃ r, prK n j = prK n i ++ r := by
  obtain ⟨d, rfl⟩ : ∃ d, j = i + d := ⟨j - i, by omega⟩
  refine ⟨((List.range d).map fun x => i + x).flatMap fun a => prR a n, ?_⟩
  unfold prK
  rw [List.range_add, List.flatMap_append]
theorem nx_hit {n a t : Nat} {g : Nat × Nat → Bool} (h1 : (prK n a ++ prR a t).find? g = none) (h2 : g (a, t) = true) (ha : a + 1 ≤ t) (ht : t < n) : (prQ n).find? g = some (a, t) := by
  obtain ⟨r1, e1⟩ := prK_pre (n := n) (i := a + 1) (j := n) (by omega)
  obtain ⟨r2, e2⟩ := prR_pre (a := a) (m := n) (t := t + 1) (by omega) (by omega)
  rw [prQ, e1, prK_S, e2, prR_S ha]
  have : prK n a ++ (prR a t ++ [(a, t)] ++ r2) ++ r1 = (prK n a ++ prR a t) ++ ((a, t) :: (r2 ++ r1)) := by simp
  rw [this, List.find?_append, h1]
  simp [h2]
theorem nx_step {n a t : Nat} {g : Nat × Nat → Bool} (h1 : (prK n a ++ prR a t).find? g = none) (h2 : g (a, t) = false) (ha : a + 1 ≤ t) : (prK n a ++ prR a (t + 1)).find? g = none := by
  rw [prR_S ha, ← List.append_assoc, List.find?_append, h1]; simp [h2]
theorem gud_eq {D : List (List Nat) → Nat} {L : List (List Nat)} {x y : Nat} {v : Bool} (h : (decide (((D (prt L x y) : Nat) : Int) < ((D L : Nat) : Int)) && decide (((D (prt L y x) : Nat) : Int) < ((D L : Nat) : Int))) = v) : gudP D L (x, y) = v := by
  rw [← h]; unfold gudP; simp only [Int.ofNat_lt]
theorem nx_zero {D : List (List Nat) → Nat} {L : List (List Nat)} {l : List (Nat × Nat)} (h : D L = 0) : l.find? (gudP D L) = none := by
  rw [List.find?_eq_none]
  intro p _
  unfold gudP; rw [h]; simp
theorem fewR_e (b : Bk) (c : Option Nat) (hl : b.ls.length ≤ 1000000) (e : Int) (he : e ≠ 0) (hr : Pure Try.prog 65 [bookA b c, .nils] (i64 e)) : Pure Try.prog 79 [bookA b c] (i64 e) := by
  refine pure_of_body Try.func79 (c := body Try.f79) rfl (by simp [Try.ntmps79]) fun w0 Φ0 => ?_
  refine W_seq rfl ?_
  refine W_reg rfl ?_
  refine Rv rfl rfl rfl (U_boxF rfl rfl rfl) rfl rfl ?_
  refine Rv rfl rfl rfl (U_assign rfl) rfl rfl ?_
  refine Re rfl ?_
  refine thenQ_n ?_
  refine W_seq rfl ?_
  refine W_seq rfl ?_
  refine W_reg rfl ?_
  refine Rv rfl rfl rfl (U_load2 rfl rfl rfl rfl) rfl rfl ?_
  refine Rv rfl rfl rfl (U_call rfl rfl (hr) rfl) rfl rfl ?_
  refine Rv rfl rfl rfl (U_neq rfl rfl) rfl rfl ?_
  refine Re rfl ?_
  refine thenQ_n ?_
  refine WcondP rfl rfl (fun hc0 => ?_) (fun hc0 => absurd (he) hc0)
  refine W_seq rfl ?_
  refine W_reg rfl ?_
  refine Rv rfl rfl rfl (U_load2 rfl rfl rfl rfl) rfl rfl ?_
  refine Rv rfl rfl rfl (U_call rfl rfl (hr) rfl) rfl rfl ?_
  refine Rv rfl rfl rfl (U_assign rfl) rfl rfl ?_
  refine Re rfl ?_
  refine thenQ_n ?_
  refine W_ret rfl ?_
  refine thenQ_r ?_
  exact retL (rlT rfl rl0) rfl rfl
theorem fewR_o (n : Nat) (ks : List (Nat × Nat)) (c : Option Nat) (hv : VB n ks) (h40 : ks.length ≤ 40) (ha : Acy n ks) (h4 : ¬ n ≤ 4) : Pure Try.prog 79 [bknA n ks c] (i64 4) := by
  have hv' := hv
  obtain ⟨hn1, hn, hkl, hk⟩ := hv'
  have hk2 := vb_lt hv
  refine pure_of_body Try.func79 (c := body Try.f79) rfl (by simp [Try.ntmps79]) fun w0 Φ0 => ?_
  refine W_seq rfl ?_
  refine W_reg rfl ?_
  refine Rv rfl rfl rfl (U_boxF rfl rfl rfl) rfl rfl ?_
  refine Rv rfl rfl rfl (U_assign rfl) rfl rfl ?_
  refine Re rfl ?_
  refine thenQ_n ?_
  refine W_seq rfl ?_
  refine W_seq rfl ?_
  refine W_reg rfl ?_
  refine Rv rfl rfl rfl (U_load2 rfl rfl rfl rfl) rfl rfl ?_
  refine Rv rfl rfl rfl (U_call rfl rfl ((ruledR_CG n ks c hv h40 [] none (by simp) rfl (by simp) ha).weak (leL_cons (le_refl _) (leL_cons le_nils (leL_refl _)))) rfl) rfl rfl ?_
  refine Rv rfl rfl rfl (U_neq rfl rfl) rfl rfl ?_
  refine Re rfl ?_
  refine thenQ_n ?_
  refine WcondP rfl rfl (fun h => absurd h (by decide)) (fun _ => ?_)
  refine W_skip rfl ?_
  refine thenQ_n ?_
  refine W_seq rfl ?_
  refine W_seq rfl ?_
  refine W_reg rfl ?_
  refine Rv rfl rfl rfl (U_fieldAddrR rfl) rfl rfl ?_
  refine Rv rfl rfl rfl (U_load1 rfl rfl rfl) rfl rfl ?_
  refine Rv rfl rfl rfl (U_gtr rfl rfl) rfl rfl ?_
  refine Re rfl ?_
  refine thenQ_n ?_
  refine WcondP rfl rfl (fun hc1 => ?_) (fun hc1 => absurd (by omega) hc1)
  refine W_seq rfl ?_
  refine W_reg rfl ?_
  refine Rv rfl rfl rfl (U_assign rfl) rfl rfl ?_
  refine Re rfl ?_
  refine thenQ_n ?_
  refine W_ret rfl ?_
  refine thenQ_r ?_
  exact retL (rlT rfl rl0) rfl rfl
theorem fewR_g (n : Nat) (ks : List (Nat × Nat)) (c : Option Nat) (hv : VB n ks) (h40 : ks.length ≤ 40) (ha : Acy n ks) (h4 : n ≤ 4) : Pure Try.prog 79 [bknA n ks c] (i64 0) := by
  have hv' := hv
  obtain ⟨hn1, hn, hkl, hk⟩ := hv'
  have hk2 := vb_lt hv
  refine pure_of_body Try.func79 (c := body Try.f79) rfl (by simp [Try.ntmps79]) fun w0 Φ0 => ?_
  refine W_seq rfl ?_
  refine W_reg rfl ?_
  refine Rv rfl rfl rfl (U_boxF rfl rfl rfl) rfl rfl ?_
  refine Rv rfl rfl rfl (U_assign rfl) rfl rfl ?_
  refine Re rfl ?_
  refine thenQ_n ?_
  refine W_seq rfl ?_
  refine W_seq rfl ?_
  refine W_reg rfl ?_
  refine Rv rfl rfl rfl (U_load2 rfl rfl rfl rfl) rfl rfl ?_
  refine Rv rfl rfl rfl (U_call rfl rfl ((ruledR_CG n ks c hv h40 [] none (by simp) rfl (by simp) ha).weak (leL_cons (le_refl _) (leL_cons le_nils (leL_refl _)))) rfl) rfl rfl ?_
  refine Rv rfl rfl rfl (U_neq rfl rfl) rfl rfl ?_
  refine Re rfl ?_
  refine thenQ_n ?_
  refine WcondP rfl rfl (fun h => absurd h (by decide)) (fun _ => ?_)
  refine W_skip rfl ?_
  refine thenQ_n ?_
  refine W_seq rfl ?_
  refine W_seq rfl ?_
  refine W_reg rfl ?_
  refine Rv rfl rfl rfl (U_fieldAddrR rfl) rfl rfl ?_
  refine Rv rfl rfl rfl (U_load1 rfl rfl rfl) rfl rfl ?_
  refine Rv rfl rfl rfl (U_gtr rfl rfl) rfl rfl ?_
  refine Re rfl ?_
  refine thenQ_n ?_
  refine WcondP rfl rfl (fun hc1 => absurd hc1 (by omega)) (fun hc1 => ?_)
  refine W_skip rfl ?_
  refine thenQ_n ?_
  refine W_seq rfl ?_
  refine W_reg rfl ?_
  refine Rv rfl rfl rfl (U_assign rfl) rfl rfl ?_
  refine Re rfl ?_
  refine thenQ_n ?_
  refine W_ret rfl ?_
  exact retL (rlT rfl rl0) rfl rfl
theorem depthOf_p (n : Nat) (ks : List (Nat × Nat)) (c : Option Nat) (hv : VB n ks) (h40 : ks.length ≤ 40) (h4 : n ≤ 4) : Pure Try.prog 80 [bknA n ks c] (i64 ((dpQ n (ords n ks) : Nat) : Int)) := by
  have hv' := hv
  obtain ⟨hn1, hn, hkl, hk⟩ := hv'
  have hk2 := vb_lt hv
  have hoi := ords_in (ks := ks) h4
  refine pure_of_body Try.func80 (c := body Try.f80) rfl (by simp [Try.ntmps80]) fun w0 Φ0 => ?_
  refine W_seq rfl ?_
  refine W_reg rfl ?_
  refine Rv rfl rfl rfl (U_boxF rfl rfl rfl) rfl rfl ?_
  refine Rv rfl rfl rfl (U_assign rfl) rfl rfl ?_
  refine Re rfl ?_
  refine thenQ_n ?_
  refine W_seq rfl ?_
  refine Wdraw rfl (by kernel_rfl) (by kernel_rfl) ?_
  refine Dv rfl rfl rfl (U_load2 rfl rfl rfl rfl) rfl rfl ?_
  refine Dv rfl rfl rfl (U_call rfl rfl (orders_p n ks c hv h40 h4) rfl) rfl rfl ?_
  refine Dv rfl rfl rfl (U_fieldAddrR rfl) rfl rfl ?_
  refine Dv rfl rfl rfl (U_load1 rfl rfl rfl) rfl rfl ?_
  refine Dv rfl rfl rfl (U_call rfl rfl (dpQ_p n h4 (ords n ks) (by first | assumption | exact hoi.1 | exact Nat.le_trans prt_len hoi.1) (by first | exact fun o ho => (hoi.2 o ho).1 | exact fun o ho => (hoi.2 o (prt_sub ho)).1)) rfl) rfl rfl ?_
  refine Dv rfl rfl rfl (U_assign rfl) rfl rfl ?_
  refine Dr.nil rfl ?_
  refine thenQ_n ?_
  refine W_ret rfl ?_
  exact retL (rlT rfl rl0) rfl rfl
theorem depthR_e (b : Bk) (c : Option Nat) (hl : b.ls.length ≤ 1000000) (e : Int) (he : e ≠ 0) (hr : Pure Try.prog 65 [bookA b c, .nils] (i64 e)) : Pure Try.prog 43 [bookA b c] (.tup [i64 0, i64 e]) := by
  refine pure_of_body Try.func43 (c := body Try.f43) rfl (by simp [Try.ntmps43]) fun w0 Φ0 => ?_
  refine W_seq rfl ?_
  refine W_reg rfl ?_
  refine Rv rfl rfl rfl (U_boxF rfl rfl rfl) rfl rfl ?_
  refine Rv rfl rfl rfl (U_assign rfl) rfl rfl ?_
  refine Rv rfl rfl rfl (U_assign rfl) rfl rfl ?_
  refine Re rfl ?_
  refine thenQ_n ?_
  refine W_seq rfl ?_
  refine W_seq rfl ?_
  refine W_reg rfl ?_
  refine Rv rfl rfl rfl (U_load2 rfl rfl rfl rfl) rfl rfl ?_
  refine Rv rfl rfl rfl (U_call rfl rfl (fewR_e b c hl e he hr) rfl) rfl rfl ?_
  refine Rv rfl rfl rfl (U_neq rfl rfl) rfl rfl ?_
  refine Re rfl ?_
  refine thenQ_n ?_
  refine WcondP rfl rfl (fun hc0 => ?_) (fun hc0 => absurd (he) hc0)
  refine W_seq rfl ?_
  refine W_reg rfl ?_
  refine Rv rfl rfl rfl (U_load2 rfl rfl rfl rfl) rfl rfl ?_
  refine Rv rfl rfl rfl (U_call rfl rfl (fewR_e b c hl e he hr) rfl) rfl rfl ?_
  refine Rv rfl rfl rfl (U_assign rfl) rfl rfl ?_
  refine Rv rfl rfl rfl (U_assign rfl) rfl rfl ?_
  refine Re rfl ?_
  refine thenQ_n ?_
  refine W_ret rfl ?_
  refine thenQ_r ?_
  exact retL (rlT rfl (rlT rfl rl0)) rfl rfl
theorem nextR_e (b : Bk) (c : Option Nat) (hl : b.ls.length ≤ 1000000) (e : Int) (he : e ≠ 0) (hr : Pure Try.prog 65 [bookA b c, .nils] (i64 e)) : Pure Try.prog 45 [bookA b c] (.tup [i64 0, i64 0, i64 e]) := by
  refine pure_of_body Try.func45 (c := body Try.f45) rfl (by simp [Try.ntmps45]) fun w0 Φ0 => ?_
  refine W_seq rfl ?_
  refine W_reg rfl ?_
  refine Rv rfl rfl rfl (U_boxF rfl rfl rfl) rfl rfl ?_
  refine Rv rfl rfl rfl (U_assign rfl) rfl rfl ?_
  refine Rv rfl rfl rfl (U_assign rfl) rfl rfl ?_
  refine Rv rfl rfl rfl (U_assign rfl) rfl rfl ?_
  refine Re rfl ?_
  refine thenQ_n ?_
  refine W_seq rfl ?_
  refine W_seq rfl ?_
  refine W_reg rfl ?_
  refine Rv rfl rfl rfl (U_load2 rfl rfl rfl rfl) rfl rfl ?_
  refine Rv rfl rfl rfl (U_call rfl rfl (fewR_e b c hl e he hr) rfl) rfl rfl ?_
  refine Rv rfl rfl rfl (U_neq rfl rfl) rfl rfl ?_
  refine Re rfl ?_
  refine thenQ_n ?_
  refine WcondP rfl rfl (fun hc0 => ?_) (fun hc0 => absurd (he) hc0)
  refine W_seq rfl ?_
  refine W_reg rfl ?_
  refine Rv rfl rfl rfl (U_load2 rfl rfl rfl rfl) rfl rfl ?_
  refine Rv rfl rfl rfl (U_call rfl rfl (fewR_e b c hl e he hr) rfl) rfl rfl ?_
  refine Rv rfl rfl rfl (U_assign rfl) rfl rfl ?_
  refine Rv rfl rfl rfl (U_assign rfl) rfl rfl ?_
  refine Rv rfl rfl rfl (U_assign rfl) rfl rfl ?_
  refine Re rfl ?_
  refine thenQ_n ?_
  refine W_ret rfl ?_
  refine thenQ_r ?_
  exact retL (rlT rfl (rlT rfl (rlT rfl rl0))) rfl rfl
theorem depthR_o (n : Nat) (ks : List (Nat × Nat)) (c : Option Nat) (hv : VB n ks) (h40 : ks.length ≤ 40) (ha : Acy n ks) (h4 : ¬ n ≤ 4) : Pure Try.prog 43 [bknA n ks c] (.tup [i64 0, i64 4]) := by
  have hv' := hv
  obtain ⟨hn1, hn, hkl, hk⟩ := hv'
  have hk2 := vb_lt hv
  refine pure_of_body Try.func43 (c := body Try.f43) rfl (by simp [Try.ntmps43]) fun w0 Φ0 => ?_
  refine W_seq rfl ?_
  refine W_reg rfl ?_
  refine Rv rfl rfl rfl (U_boxF rfl rfl rfl) rfl rfl ?_
  refine Rv rfl rfl rfl (U_assign rfl) rfl rfl ?_
  refine Rv rfl rfl rfl (U_assign rfl) rfl rfl ?_
  refine Re rfl ?_
  refine thenQ_n ?_
  refine W_seq rfl ?_
  refine W_seq rfl ?_
  refine W_reg rfl ?_
  refine Rv rfl rfl rfl (U_load2 rfl rfl rfl rfl) rfl rfl ?_
  refine Rv rfl rfl rfl (U_call rfl rfl (fewR_o n ks c hv h40 ha h4) rfl) rfl rfl ?_
  refine Rv rfl rfl rfl (U_neq rfl rfl) rfl rfl ?_
  refine Re rfl ?_
  refine thenQ_n ?_
  refine WcondP rfl rfl (fun _ => ?_) (fun h => absurd (by decide) h)
  refine W_seq rfl ?_
  refine W_reg rfl ?_
  refine Rv rfl rfl rfl (U_load2 rfl rfl rfl rfl) rfl rfl ?_
  refine Rv rfl rfl rfl (U_call rfl rfl (fewR_o n ks c hv h40 ha h4) rfl) rfl rfl ?_
  refine Rv rfl rfl rfl (U_assign rfl) rfl rfl ?_
  refine Rv rfl rfl rfl (U_assign rfl) rfl rfl ?_
  refine Re rfl ?_
  refine thenQ_n ?_
  refine W_ret rfl ?_
  refine thenQ_r ?_
  exact retL (rlT rfl (rlT rfl rl0)) rfl rfl
theorem nextR_o (n : Nat) (ks : List (Nat × Nat)) (c : Option Nat) (hv : VB n ks) (h40 : ks.length ≤ 40) (ha : Acy n ks) (h4 : ¬ n ≤ 4) : Pure Try.prog 45 [bknA n ks c] (.tup [i64 0, i64 0, i64 4]) := by
  have hv' := hv
  obtain ⟨hn1, hn, hkl, hk⟩ := hv'
  have hk2 := vb_lt hv
  refine pure_of_body Try.func45 (c := body Try.f45) rfl (by simp [Try.ntmps45]) fun w0 Φ0 => ?_
  refine W_seq rfl ?_
  refine W_reg rfl ?_
  refine Rv rfl rfl rfl (U_boxF rfl rfl rfl) rfl rfl ?_
  refine Rv rfl rfl rfl (U_assign rfl) rfl rfl ?_
  refine Rv rfl rfl rfl (U_assign rfl) rfl rfl ?_
  refine Rv rfl rfl rfl (U_assign rfl) rfl rfl ?_
  refine Re rfl ?_
  refine thenQ_n ?_
  refine W_seq rfl ?_
  refine W_seq rfl ?_
  refine W_reg rfl ?_
  refine Rv rfl rfl rfl (U_load2 rfl rfl rfl rfl) rfl rfl ?_
  refine Rv rfl rfl rfl (U_call rfl rfl (fewR_o n ks c hv h40 ha h4) rfl) rfl rfl ?_
  refine Rv rfl rfl rfl (U_neq rfl rfl) rfl rfl ?_
  refine Re rfl ?_
  refine thenQ_n ?_
  refine WcondP rfl rfl (fun _ => ?_) (fun h => absurd (by decide) h)
  refine W_seq rfl ?_
  refine W_reg rfl ?_
  refine Rv rfl rfl rfl (U_load2 rfl rfl rfl rfl) rfl rfl ?_
  refine Rv rfl rfl rfl (U_call rfl rfl (fewR_o n ks c hv h40 ha h4) rfl) rfl rfl ?_
  refine Rv rfl rfl rfl (U_assign rfl) rfl rfl ?_
  refine Rv rfl rfl rfl (U_assign rfl) rfl rfl ?_
  refine Rv rfl rfl rfl (U_assign rfl) rfl rfl ?_
  refine Re rfl ?_
  refine thenQ_n ?_
  refine W_ret rfl ?_
  refine thenQ_r ?_
  exact retL (rlT rfl (rlT rfl (rlT rfl rl0))) rfl rfl
theorem depthR_g (n : Nat) (ks : List (Nat × Nat)) (c : Option Nat) (hv : VB n ks) (h40 : ks.length ≤ 40) (ha : Acy n ks) (h4 : n ≤ 4) : Pure Try.prog 43 [bknA n ks c] (.tup [i64 ((dpQ n (ords n ks) : Nat) : Int), i64 0]) := by
  have hv' := hv
  obtain ⟨hn1, hn, hkl, hk⟩ := hv'
  have hk2 := vb_lt hv
  have hoi := ords_in (ks := ks) h4
  refine pure_of_body Try.func43 (c := body Try.f43) rfl (by simp [Try.ntmps43]) fun w0 Φ0 => ?_
  refine W_seq rfl ?_
  refine W_reg rfl ?_
  refine Rv rfl rfl rfl (U_boxF rfl rfl rfl) rfl rfl ?_
  refine Rv rfl rfl rfl (U_assign rfl) rfl rfl ?_
  refine Rv rfl rfl rfl (U_assign rfl) rfl rfl ?_
  refine Re rfl ?_
  refine thenQ_n ?_
  refine W_seq rfl ?_
  refine W_seq rfl ?_
  refine W_reg rfl ?_
  refine Rv rfl rfl rfl (U_load2 rfl rfl rfl rfl) rfl rfl ?_
  refine Rv rfl rfl rfl (U_call rfl rfl (fewR_g n ks c hv h40 ha h4) rfl) rfl rfl ?_
  refine Rv rfl rfl rfl (U_neq rfl rfl) rfl rfl ?_
  refine Re rfl ?_
  refine thenQ_n ?_
  refine WcondP rfl rfl (fun h => absurd h (by decide)) (fun _ => ?_)
  refine W_skip rfl ?_
  refine thenQ_n ?_
  refine W_seq rfl ?_
  refine W_reg rfl ?_
  refine Rv rfl rfl rfl (U_load2 rfl rfl rfl rfl) rfl rfl ?_
  refine Rv rfl rfl rfl (U_call rfl rfl (depthOf_p n ks c hv h40 h4) rfl) rfl rfl ?_
  refine Rv rfl rfl rfl (U_assign rfl) rfl rfl ?_
  refine Rv rfl rfl rfl (U_assign rfl) rfl rfl ?_
  refine Re rfl ?_
  refine thenQ_n ?_
  refine W_ret rfl ?_
  exact retL (rlT rfl (rlT rfl rl0)) rfl rfl
theorem nextR_g (n : Nat) (ks : List (Nat × Nat)) (c : Option Nat) (hv : VB n ks) (h40 : ks.length ≤ 40) (ha : Acy n ks) (h4 : n ≤ 4) : Pure Try.prog 45 [bknA n ks c] (nxtA ((prQ n).find? (gudP (dpQ n) (ords n ks)))) := by
  have hv' := hv
  obtain ⟨hn1, hn, hkl, hk⟩ := hv'
  have hk2 := vb_lt hv
  have hoi := ords_in (ks := ks) h4
  refine pure_of_body Try.func45 (c := body Try.f45) rfl (by simp [Try.ntmps45]) fun w0 Φ0 => ?_
  refine W_seq rfl ?_
  refine W_reg rfl ?_
  refine Rv rfl rfl rfl (U_boxF rfl rfl rfl) rfl rfl ?_
  refine Rv rfl rfl rfl (U_assign rfl) rfl rfl ?_
  refine Rv rfl rfl rfl (U_assign rfl) rfl rfl ?_
  refine Rv rfl rfl rfl (U_assign rfl) rfl rfl ?_
  refine Re rfl ?_
  refine thenQ_n ?_
  refine W_seq rfl ?_
  refine W_seq rfl ?_
  refine W_reg rfl ?_
  refine Rv rfl rfl rfl (U_load2 rfl rfl rfl rfl) rfl rfl ?_
  refine Rv rfl rfl rfl (U_call rfl rfl (fewR_g n ks c hv h40 ha h4) rfl) rfl rfl ?_
  refine Rv rfl rfl rfl (U_neq rfl rfl) rfl rfl ?_
  refine Re rfl ?_
  refine thenQ_n ?_
  refine WcondP rfl rfl (fun h => absurd h (by decide)) (fun _ => ?_)
  refine W_skip rfl ?_
  refine thenQ_n ?_
  refine W_seq rfl ?_
  refine W_reg rfl ?_
  refine Rv rfl rfl rfl (U_load2 rfl rfl rfl rfl) rfl rfl ?_
  refine Rv rfl rfl rfl (U_call rfl rfl (orders_p n ks c hv h40 h4) rfl) rfl rfl ?_
  refine Rv rfl rfl rfl (U_assign rfl) rfl rfl ?_
  refine Re rfl ?_
  refine thenQ_n ?_
  refine W_seq rfl ?_
  refine W_reg rfl ?_
  refine Rv rfl rfl rfl (U_move rfl) rfl rfl ?_
  refine Rv rfl rfl rfl (U_fieldAddrR rfl) rfl rfl ?_
  refine Rv rfl rfl rfl (U_load1 rfl rfl rfl) rfl rfl ?_
  refine Rv rfl rfl rfl (U_call rfl rfl (dpQ_p n h4 (ords n ks) (by first | assumption | exact hoi.1 | exact Nat.le_trans prt_len hoi.1) (by first | exact fun o ho => (hoi.2 o ho).1 | exact fun o ho => (hoi.2 o (prt_sub ho)).1)) rfl) rfl rfl ?_
  refine Rv rfl rfl rfl (U_assign rfl) rfl rfl ?_
  refine Re rfl ?_
  refine thenQ_n ?_
  refine W_seq rfl ?_
  refine W_seq rfl ?_
  refine W_reg rfl ?_
  refine Rv rfl rfl rfl (U_assign rfl) rfl rfl ?_
  refine Re rfl ?_
  refine thenQ_n ?_
  refine W_block rfl ?_
  refine LoopTo (T' := [(1, .rop [i64 ((n : Nat) : Int), .ros (ks.flatMap lkN) ks.length c] 0), (5, .ros ((ords n ks).map natsL) ((ords n ks).length) none), (6, i64 ((dpQ n (ords n ks) : Nat) : Int)), (7, i64 ((0 : Nat) : Int))]) (H' := []) (n := 0) rfl (fun mz_ qz_ => ∃ (one : Nat), one ≤ n ∧ (prK n one).find? (gudP (dpQ n) (ords n ks)) = none ∧ mz_ = n - one ∧ qz_ = ⟨[(1, .rop [i64 ((n : Nat) : Int), .ros (ks.flatMap lkN) ks.length c] 0), (5, .ros ((ords n ks).map natsL) ((ords n ks).length) none), (6, i64 ((dpQ n (ords n ks) : Nat) : Int)), (7, i64 ((one : Nat) : Int))], [], 0, []⟩) ⟨0, (by omega), rfl, rfl, rfl⟩ id ⟨eD rfl rfl, eD rfl rfl, eD rfl rfl, eD rfl rfl, trivial⟩ trivial rfl rfl rfl rfl (fun _ _ => rfl) ?_
  rintro _ _ ⟨one, hi0_0, hi0_1, rfl, rfl⟩
  refine W_seq rfl ?_
  refine W_seq rfl ?_
  refine Wjoin ⟨[(1, .rop [i64 ((n : Nat) : Int), .ros (ks.flatMap lkN) ks.length c] 0), (5, .ros ((ords n ks).map natsL) ((ords n ks).length) none), (6, i64 ((dpQ n (ords n ks) : Nat) : Int)), (7, i64 ((one : Nat) : Int)), (27, .bool ((decide (((one : Nat) : Int) < ((n : Nat) : Int))) && (decide (0 < ((dpQ n (ords n ks) : Nat) : Int)))))], [], 0, []⟩ ?_ ?_
  · refine W_reg rfl ?_
    refine Rv rfl rfl rfl (U_move rfl) rfl rfl ?_
    refine Rv rfl rfl rfl (U_fieldAddrR rfl) rfl rfl ?_
    refine Rv rfl rfl rfl (U_load1 rfl rfl rfl) rfl rfl ?_
    refine Rv rfl rfl rfl (U_lss rfl rfl) rfl rfl ?_
    refine Rv rfl rfl rfl (U_move rfl) rfl rfl ?_
    refine Rsplit (t := 24) rfl (fun hg1 => ?_) (fun hg1 => ?_)
    · rw [hg1]
      have hg1' : ((one : Nat) : Int) < ((n : Nat) : Int) := of_decide_eq_true hg1
      refine Rv rfl rfl rfl (U_move rfl) rfl rfl ?_
      refine Rv rfl rfl rfl (U_gtr rfl rfl) rfl rfl ?_
      refine Rv rfl rfl rfl (U_pick_t rfl rfl) rfl rfl ?_
      refine Re rfl ?_
      exact joinTo id ⟨eD rfl rfl, eD rfl rfl, eD rfl rfl, eD rfl rfl, eD rfl rfl, trivial⟩ trivial rfl rfl rfl rfl (fun _ _ => rfl)
    · rw [hg1]
      have hg1' : ¬ (((one : Nat) : Int) < ((n : Nat) : Int)) := of_decide_eq_false hg1
      refine Rs rfl rfl rfl rfl rfl ?_
      refine Rs rfl rfl rfl rfl rfl ?_
      refine Rv rfl rfl rfl (U_pick_f rfl rfl) rfl rfl ?_
      refine Re rfl ?_
      exact joinTo id ⟨eD rfl rfl, eD rfl rfl, eD rfl rfl, eD rfl rfl, eD rfl rfl, trivial⟩ trivial rfl rfl rfl rfl (fun _ _ => rfl)
  refine thenQ_n ?_
  refine Wcond rfl rfl (fun hc1 => ?_) (fun hc1 => ?_)
  · have h1n : one < n := by rw [Bool.and_eq_true, decide_eq_true_eq, decide_eq_true_eq] at hc1; omega
    refine W_skip rfl ?_
    refine thenQ_n ?_
    refine W_seq rfl ?_
    refine W_block rfl ?_
    refine W_seq rfl ?_
    refine W_reg rfl ?_
    refine Rv rfl rfl rfl (U_move rfl) rfl rfl ?_
    refine Rv rfl rfl rfl (U_add rfl rfl (w64e (m := ((one + 1 : Nat) : Int)) (by omega) (by omega) (by omega))) rfl rfl ?_
    refine Rv rfl rfl rfl (U_assign rfl) rfl rfl ?_
    refine Re rfl ?_
    refine thenQ_n ?_
    refine W_block rfl ?_
    refine LoopTo (T' := [(1, .rop [i64 ((n : Nat) : Int), .ros (ks.flatMap lkN) ks.length c] 0), (5, .ros ((ords n ks).map natsL) ((ords n ks).length) none), (6, i64 ((dpQ n (ords n ks) : Nat) : Int)), (7, i64 ((one : Nat) : Int)), (8, i64 (((one + 1) : Nat) : Int))]) (H' := []) (n := 0) rfl (fun mz_ qz_ => ∃ (two : Nat), one + 1 ≤ two ∧ two ≤ n ∧ (prK n one ++ prR one two).find? (gudP (dpQ n) (ords n ks)) = none ∧ mz_ = n - two ∧ qz_ = ⟨[(1, .rop [i64 ((n : Nat) : Int), .ros (ks.flatMap lkN) ks.length c] 0), (5, .ros ((ords n ks).map natsL) ((ords n ks).length) none), (6, i64 ((dpQ n (ords n ks) : Nat) : Int)), (7, i64 ((one : Nat) : Int)), (8, i64 ((two : Nat) : Int))], [], 0, []⟩) ⟨one + 1, (Nat.le_refl _), (by omega), (by rw [show prR one (one + 1) = [] by simp [prR], List.append_nil]; exact hi0_1), rfl, rfl⟩ id ⟨eD rfl rfl, eD rfl rfl, eD rfl rfl, eD rfl rfl, eD rfl rfl, trivial⟩ trivial rfl rfl rfl rfl (fun _ _ => rfl) ?_
    rintro _ _ ⟨two, hi1_0, hi1_1, hi1_2, rfl, rfl⟩
    refine W_seq rfl ?_
    refine W_seq rfl ?_
    refine W_reg rfl ?_
    refine Rv rfl rfl rfl (U_move rfl) rfl rfl ?_
    refine Rv rfl rfl rfl (U_fieldAddrR rfl) rfl rfl ?_
    refine Rv rfl rfl rfl (U_load1 rfl rfl rfl) rfl rfl ?_
    refine Rv rfl rfl rfl (U_lss rfl rfl) rfl rfl ?_
    refine Re rfl ?_
    refine thenQ_n ?_
    refine WcondP rfl rfl (fun hc2 => ?_) (fun hc2 => ?_)
    · refine W_skip rfl ?_
      refine thenQ_n ?_
      refine W_seq rfl ?_
      refine W_block rfl ?_
      refine W_seq rfl ?_
      refine Wjoin ⟨[(1, .rop [i64 ((n : Nat) : Int), .ros (ks.flatMap lkN) ks.length c] 0), (5, .ros ((ords n ks).map natsL) ((ords n ks).length) none), (6, i64 ((dpQ n (ords n ks) : Nat) : Int)), (7, i64 ((one : Nat) : Int)), (8, i64 ((two : Nat) : Int)), (57, .bool ((decide (((dpQ n (prt (ords n ks) one two) : Nat) : Int) < ((dpQ n (ords n ks) : Nat) : Int))) && (decide (((dpQ n (prt (ords n ks) two one) : Nat) : Int) < ((dpQ n (ords n ks) : Nat) : Int)))))], [], 0, []⟩ ?_ ?_
      · refine Wdraw rfl (by kernel_rfl) (by kernel_rfl) ?_
        refine Dv rfl rfl rfl (U_move rfl) rfl rfl ?_
        refine Dv rfl rfl rfl (U_move rfl) rfl rfl ?_
        refine Dv rfl rfl rfl (U_move rfl) rfl rfl ?_
        refine Dv rfl rfl rfl (U_call rfl rfl (prt_p n h4 (ords n ks) hoi.1 (fun o ho => (hoi.2 o ho).1) one two) rfl) rfl rfl ?_
        refine Dv rfl rfl rfl (U_fieldAddrR rfl) rfl rfl ?_
        refine Dv rfl rfl rfl (U_load1 rfl rfl rfl) rfl rfl ?_
        refine Dv rfl rfl rfl (U_call rfl rfl (dpQ_p n h4 (prt (ords n ks) one two) (by first | assumption | exact hoi.1 | exact Nat.le_trans prt_len hoi.1) (by first | exact fun o ho => (hoi.2 o ho).1 | exact fun o ho => (hoi.2 o (prt_sub ho)).1)) rfl) rfl rfl ?_
        refine Dv rfl rfl rfl (U_move rfl) rfl rfl ?_
        refine Dv rfl rfl rfl (U_lss rfl rfl) rfl rfl ?_
        refine Dv rfl rfl rfl (U_move rfl) rfl rfl ?_
        refine Dsplit (t := 47) rfl (fun hg2 => ?_) (fun hg2 => ?_)
        · rw [hg2]
          have hg2' : ((dpQ n (prt (ords n ks) one two) : Nat) : Int) < ((dpQ n (ords n ks) : Nat) : Int) := of_decide_eq_true hg2
          refine Dv rfl rfl rfl (U_move rfl) rfl rfl ?_
          refine Dv rfl rfl rfl (U_move rfl) rfl rfl ?_
          refine Dv rfl rfl rfl (U_move rfl) rfl rfl ?_
          refine Dv rfl rfl rfl (U_call rfl rfl (prt_p n h4 (ords n ks) hoi.1 (fun o ho => (hoi.2 o ho).1) two one) rfl) rfl rfl ?_
          refine Dv rfl rfl rfl (U_fieldAddrR rfl) rfl rfl ?_
          refine Dv rfl rfl rfl (U_load1 rfl rfl rfl) rfl rfl ?_
          refine Dv rfl rfl rfl (U_call rfl rfl (dpQ_p n h4 (prt (ords n ks) two one) (by first | assumption | exact hoi.1 | exact Nat.le_trans prt_len hoi.1) (by first | exact fun o ho => (hoi.2 o ho).1 | exact fun o ho => (hoi.2 o (prt_sub ho)).1)) rfl) rfl rfl ?_
          refine Dv rfl rfl rfl (U_move rfl) rfl rfl ?_
          refine Dv rfl rfl rfl (U_lss rfl rfl) rfl rfl ?_
          refine Dv rfl rfl rfl (U_pick_t rfl rfl) rfl rfl ?_
          refine Dr.nil rfl ?_
          exact joinTo id ⟨eD rfl rfl, eD rfl rfl, eD rfl rfl, eD rfl rfl, eD rfl rfl, eD rfl rfl, trivial⟩ trivial rfl rfl rfl rfl (fun _ _ => rfl)
        · rw [hg2]
          have hg2' : ¬ (((dpQ n (prt (ords n ks) one two) : Nat) : Int) < ((dpQ n (ords n ks) : Nat) : Int)) := of_decide_eq_false hg2
          refine Ds rfl rfl rfl rfl rfl ?_
          refine Ds rfl rfl rfl rfl rfl ?_
          refine Ds rfl rfl rfl rfl rfl ?_
          refine Ds rfl rfl rfl rfl rfl ?_
          refine Ds rfl rfl rfl rfl rfl ?_
          refine Ds rfl rfl rfl rfl rfl ?_
          refine Ds rfl rfl rfl rfl rfl ?_
          refine Ds rfl rfl rfl rfl rfl ?_
          refine Ds rfl rfl rfl rfl rfl ?_
          refine Dv rfl rfl rfl (U_pick_f rfl rfl) rfl rfl ?_
          refine Dr.nil rfl ?_
          exact joinTo id ⟨eD rfl rfl, eD rfl rfl, eD rfl rfl, eD rfl rfl, eD rfl rfl, eD rfl rfl, trivial⟩ trivial rfl rfl rfl rfl (fun _ _ => rfl)
      refine thenQ_n ?_
      refine Wcond rfl rfl (fun hc3 => ?_) (fun hc3 => ?_)
      · have hgT := gud_eq hc3
        refine W_seq rfl ?_
        refine W_reg rfl ?_
        refine Rv rfl rfl rfl (U_move rfl) rfl rfl ?_
        refine Rv rfl rfl rfl (U_move rfl) rfl rfl ?_
        refine Rv rfl rfl rfl (U_assign rfl) rfl rfl ?_
        refine Rv rfl rfl rfl (U_assign rfl) rfl rfl ?_
        refine Rv rfl rfl rfl (U_assign rfl) rfl rfl ?_
        refine Re rfl ?_
        refine thenQ_n ?_
        refine W_ret rfl ?_
        refine blkQ_r ?_
        refine thenQ_r ?_
        refine thenQ_r ?_
        refine blkQ_r ?_
        refine blkQ_r ?_
        refine thenQ_r ?_
        refine thenQ_r ?_
        refine blkQ_r ?_
        refine thenQ_r ?_
        exact retL (rlT rfl (rlT rfl (rlT rfl rl0))) (by first | rfl | (simp only [packA]; rw [nx_hit hi1_2 hgT hi1_0 (by omega)]; rfl; first | done | rfl) | (simp only [packA]; rw [hend]; rfl; first | done | rfl)) rfl
      · have hc3' := Bool.eq_false_iff.1 hc3
        have hgF := gud_eq hc3
        refine W_skip rfl ?_
        refine blkQ_n ?_
        refine thenQ_n ?_
        refine W_reg rfl ?_
        refine Rv rfl rfl rfl (U_move rfl) rfl rfl ?_
        refine Rv rfl rfl rfl (U_add rfl rfl (w64e (m := ((two + 1 : Nat) : Int)) (by omega) (by omega) (by omega))) rfl rfl ?_
        refine Rv rfl rfl rfl (U_assign rfl) rfl rfl ?_
        refine Re rfl ?_
        refine thenQ_n ?_
        exact againTo (T' := [(1, .rop [i64 ((n : Nat) : Int), .ros (ks.flatMap lkN) ks.length c] 0), (5, .ros ((ords n ks).map natsL) ((ords n ks).length) none), (6, i64 ((dpQ n (ords n ks) : Nat) : Int)), (7, i64 ((one : Nat) : Int)), (8, i64 (((two + 1) : Nat) : Int))]) (H' := []) (n := 0) (n - (two + 1)) ⟨two + 1, (by omega), (by omega), (nx_step hi1_2 hgF hi1_0), rfl, rfl⟩ (by omega) id ⟨eD rfl rfl, eD rfl rfl, eD rfl rfl, eD rfl rfl, eD rfl rfl, trivial⟩ trivial rfl rfl rfl rfl (fun _ _ => rfl)
    · refine W_exit rfl ?_
      refine thenQ_x ?_
      refine thenQ_x ?_
      refine blkQ_x rfl ?_
      refine blkQ_n ?_
      refine thenQ_n ?_
      refine W_reg rfl ?_
      refine Rv rfl rfl rfl (U_move rfl) rfl rfl ?_
      refine Rv rfl rfl rfl (U_add rfl rfl (w64e (m := ((one + 1 : Nat) : Int)) (by omega) (by omega) (by omega))) rfl rfl ?_
      refine Rv rfl rfl rfl (U_assign rfl) rfl rfl ?_
      refine Re rfl ?_
      refine thenQ_n ?_
      exact againTo (T' := [(1, .rop [i64 ((n : Nat) : Int), .ros (ks.flatMap lkN) ks.length c] 0), (5, .ros ((ords n ks).map natsL) ((ords n ks).length) none), (6, i64 ((dpQ n (ords n ks) : Nat) : Int)), (7, i64 (((one + 1) : Nat) : Int))]) (H' := []) (n := 0) (n - (one + 1)) ⟨one + 1, (by omega), (by rw [prK_S, show prR one n = prR one two by rw [show n = two by omega]]; exact hi1_2), rfl, rfl⟩ (by omega) id ⟨eD rfl rfl, eD rfl rfl, eD rfl rfl, eD rfl rfl, trivial⟩ trivial rfl rfl rfl rfl (fun _ _ => rfl)
  · have hc1' := Bool.eq_false_iff.1 hc1
    have hend : (prQ n).find? (gudP (dpQ n) (ords n ks)) = none := by { by_cases hz : dpQ n (ords n ks) = 0; exact nx_zero hz; rw [Bool.and_eq_false_iff, decide_eq_false_iff_not, decide_eq_false_iff_not] at hc1; rw [show n = one by omega] at hi0_1 ⊢; exact hi0_1 }
    refine W_exit rfl ?_
    refine thenQ_x ?_
    refine thenQ_x ?_
    refine blkQ_x rfl ?_
    refine thenQ_n ?_
    refine W_seq rfl ?_
    refine W_reg rfl ?_
    refine Rv rfl rfl rfl (U_assign rfl) rfl rfl ?_
    refine Rv rfl rfl rfl (U_assign rfl) rfl rfl ?_
    refine Rv rfl rfl rfl (U_assign rfl) rfl rfl ?_
    refine Re rfl ?_
    refine thenQ_n ?_
    refine W_ret rfl ?_
    exact retL (rlT rfl (rlT rfl (rlT rfl rl0))) (by first | rfl | (simp only [packA]; rw [nx_hit hi1_2 hgT hi1_0 (by omega)]; rfl; first | done | rfl) | (simp only [packA]; rw [hend]; rfl; first | done | rfl)) rfl
end Go.Proofs.Ythmibifghihdaaa
end

section
namespace Go.Proofs.Ythmibifghihdaaa
set_option maxRecDepth 20000
open Go.AE
theorem fewP_e (b : Bk) (c : Option Nat) (hl : b.ls.length ≤ 1000000) (e : Int) (he : e ≠ 0) (hr : Pure Try.prog 63 [bookA b c, .nils] (.tup [.nilp, i64 e])) : Pure Try.prog 77 [bookA b c] (.tup [.nilp, i64 e]) := by
  refine pure_of_body Try.func77 (c := body Try.f77) rfl (by simp [Try.ntmps77]) fun w0 Φ0 => ?_
  refine W_seq rfl ?_
  refine W_reg rfl ?_
  refine Rv rfl rfl rfl (U_boxF rfl rfl rfl) rfl rfl ?_
  refine Rv rfl rfl rfl (U_assign rfl) rfl rfl ?_
  refine Rv rfl rfl rfl (U_assign rfl) rfl rfl ?_
  refine Re rfl ?_
  refine thenQ_n ?_
  refine W_seq rfl ?_
  refine W_reg rfl ?_
  refine Rv rfl rfl rfl (U_load2 rfl rfl rfl rfl) rfl rfl ?_
  refine Rv rfl rfl rfl (U_call rfl rfl (hr) rfl) rfl rfl ?_
  refine Rv rfl rfl rfl (U_move rfl) rfl rfl ?_
  refine Rv rfl rfl rfl (U_extract rfl rfl) rfl rfl ?_
  refine Rv rfl rfl rfl (U_extract rfl rfl) rfl rfl ?_
  refine Rv rfl rfl rfl (U_assign rfl) rfl rfl ?_
  refine Rv rfl rfl rfl (U_assign rfl) rfl rfl ?_
  refine Re rfl ?_
  refine thenQ_n ?_
  refine W_seq rfl ?_
  refine W_block rfl ?_
  refine W_seq rfl ?_
  refine W_reg rfl ?_
  refine Rv rfl rfl rfl (U_move rfl) rfl rfl ?_
  refine Rv rfl rfl rfl (U_neq rfl rfl) rfl rfl ?_
  refine Rv rfl rfl rfl (U_assign rfl) rfl rfl ?_
  refine Re rfl ?_
  refine thenQ_n ?_
  refine WcondP rfl rfl (fun hc0 => ?_) (fun hc0 => absurd (he) hc0)
  refine W_seq rfl ?_
  refine W_reg rfl ?_
  refine Rv rfl rfl rfl (U_move rfl) rfl rfl ?_
  refine Rv rfl rfl rfl (U_assign rfl) rfl rfl ?_
  refine Rv rfl rfl rfl (U_assign rfl) rfl rfl ?_
  refine Re rfl ?_
  refine thenQ_n ?_
  refine W_ret rfl ?_
  refine blkQ_r ?_
  refine thenQ_r ?_
  exact retL (rlT rfl (rlT rfl rl0)) rfl rfl
theorem depth_e (b : Bk) (c : Option Nat) (hl : b.ls.length ≤ 1000000) (e : Int) (he : e ≠ 0) (hr : Pure Try.prog 63 [bookA b c, .nils] (.tup [.nilp, i64 e])) : Pure Try.prog 42 [bookA b c] (.tup [i64 0, i64 e]) := by
  refine pure_of_body Try.func42 (c := body Try.f42) rfl (by simp [Try.ntmps42]) fun w0 Φ0 => ?_
  refine W_seq rfl ?_
  refine W_reg rfl ?_
  refine Rv rfl rfl rfl (U_boxF rfl rfl rfl) rfl rfl ?_
  refine Rv rfl rfl rfl (U_assign rfl) rfl rfl ?_
  refine Rv rfl rfl rfl (U_assign rfl) rfl rfl ?_
  refine Re rfl ?_
  refine thenQ_n ?_
  refine W_seq rfl ?_
  refine W_reg rfl ?_
  refine Rv rfl rfl rfl (U_load2 rfl rfl rfl rfl) rfl rfl ?_
  refine Rv rfl rfl rfl (U_call rfl rfl (fewP_e b c hl e he hr) rfl) rfl rfl ?_
  refine Rv rfl rfl rfl (U_move rfl) rfl rfl ?_
  refine Rv rfl rfl rfl (U_extract rfl rfl) rfl rfl ?_
  refine Rv rfl rfl rfl (U_extract rfl rfl) rfl rfl ?_
  refine Rv rfl rfl rfl (U_assign rfl) rfl rfl ?_
  refine Rv rfl rfl rfl (U_assign rfl) rfl rfl ?_
  refine Re rfl ?_
  refine thenQ_n ?_
  refine W_seq rfl ?_
  refine W_seq rfl ?_
  refine W_reg rfl ?_
  refine Rv rfl rfl rfl (U_move rfl) rfl rfl ?_
  refine Rv rfl rfl rfl (U_neq rfl rfl) rfl rfl ?_
  refine Re rfl ?_
  refine thenQ_n ?_
  refine WcondP rfl rfl (fun hc0 => ?_) (fun hc0 => absurd (he) hc0)
  refine W_seq rfl ?_
  refine W_reg rfl ?_
  refine Rv rfl rfl rfl (U_move rfl) rfl rfl ?_
  refine Rv rfl rfl rfl (U_assign rfl) rfl rfl ?_
  refine Rv rfl rfl rfl (U_assign rfl) rfl rfl ?_
  refine Re rfl ?_
  refine thenQ_n ?_
  refine W_ret rfl ?_
  refine thenQ_r ?_
  exact retL (rlT rfl (rlT rfl rl0)) rfl rfl
theorem next_e (b : Bk) (c : Option Nat) (hl : b.ls.length ≤ 1000000) (e : Int) (he : e ≠ 0) (hr : Pure Try.prog 63 [bookA b c, .nils] (.tup [.nilp, i64 e])) : Pure Try.prog 44 [bookA b c] (.tup [i64 0, i64 0, i64 e]) := by
  refine pure_of_body Try.func44 (c := body Try.f44) rfl (by simp [Try.ntmps44]) fun w0 Φ0 => ?_
  refine W_seq rfl ?_
  refine W_reg rfl ?_
  refine Rv rfl rfl rfl (U_boxF rfl rfl rfl) rfl rfl ?_
  refine Rv rfl rfl rfl (U_assign rfl) rfl rfl ?_
  refine Rv rfl rfl rfl (U_assign rfl) rfl rfl ?_
  refine Rv rfl rfl rfl (U_assign rfl) rfl rfl ?_
  refine Re rfl ?_
  refine thenQ_n ?_
  refine W_seq rfl ?_
  refine W_reg rfl ?_
  refine Rv rfl rfl rfl (U_load2 rfl rfl rfl rfl) rfl rfl ?_
  refine Rv rfl rfl rfl (U_call rfl rfl (fewP_e b c hl e he hr) rfl) rfl rfl ?_
  refine Rv rfl rfl rfl (U_move rfl) rfl rfl ?_
  refine Rv rfl rfl rfl (U_extract rfl rfl) rfl rfl ?_
  refine Rv rfl rfl rfl (U_extract rfl rfl) rfl rfl ?_
  refine Ra rfl rfl rfl (U_alloc) rfl rfl rfl ?_
  refine Rn rfl rfl rfl (U_store1 rfl rfl rfl rfl) rfl ?_
  refine Rv rfl rfl rfl (U_assign rfl) rfl rfl ?_
  refine Re rfl ?_
  refine thenQ_n ?_
  refine WfrN 0 rfl rfl (T' := [(5, .rop [.nilp] 0), (6, i64 e)]) (H' := []) ⟨⟨_, rfl, rfl⟩, ⟨_, rfl, rfl⟩, trivial⟩ trivial ?_
  refine W_seq rfl ?_
  refine W_seq rfl ?_
  refine W_reg rfl ?_
  refine Rv rfl rfl rfl (U_move rfl) rfl rfl ?_
  refine Rv rfl rfl rfl (U_neq rfl rfl) rfl rfl ?_
  refine Re rfl ?_
  refine thenQ_n ?_
  refine WcondP rfl rfl (fun hc0 => ?_) (fun hc0 => absurd (he) hc0)
  refine W_seq rfl ?_
  refine W_reg rfl ?_
  refine Rv rfl rfl rfl (U_move rfl) rfl rfl ?_
  refine Rv rfl rfl rfl (U_assign rfl) rfl rfl ?_
  refine Rv rfl rfl rfl (U_assign rfl) rfl rfl ?_
  refine Rv rfl rfl rfl (U_assign rfl) rfl rfl ?_
  refine Re rfl ?_
  refine thenQ_n ?_
  refine W_ret rfl ?_
  refine thenQ_r ?_
  exact retL (rlT rfl (rlT rfl (rlT rfl rl0))) rfl rfl
theorem next_o (n : Nat) (ks : List (Nat × Nat)) (c : Option Nat) (hv : VB n ks) (h40 : ks.length ≤ 40) (ha : Acy n ks) (h4 : ¬ n ≤ 4) : Pure Try.prog 44 [bknA n ks c] (.tup [i64 0, i64 0, i64 4]) := by
  have hv' := hv
  obtain ⟨hn1, hn, hkl, hk⟩ := hv'
  have hk2 := vb_lt hv
  refine pure_of_body Try.func44 (c := body Try.f44) rfl (by simp [Try.ntmps44]) fun w0 Φ0 => ?_
  refine W_seq rfl ?_
  refine W_reg rfl ?_
  refine Rv rfl rfl rfl (U_boxF rfl rfl rfl) rfl rfl ?_
  refine Rv rfl rfl rfl (U_assign rfl) rfl rfl ?_
  refine Rv rfl rfl rfl (U_assign rfl) rfl rfl ?_
  refine Rv rfl rfl rfl (U_assign rfl) rfl rfl ?_
  refine Re rfl ?_
  refine thenQ_n ?_
  refine W_seq rfl ?_
  refine W_reg rfl ?_
  refine Rv rfl rfl rfl (U_load2 rfl rfl rfl rfl) rfl rfl ?_
  refine Rv rfl rfl rfl (U_call rfl rfl (fewP_o n ks c hv h40 ha h4) rfl) rfl rfl ?_
  refine Rv rfl rfl rfl (U_move rfl) rfl rfl ?_
  refine Rv rfl rfl rfl (U_extract rfl rfl) rfl rfl ?_
  refine Rv rfl rfl rfl (U_extract rfl rfl) rfl rfl ?_
  refine Ra rfl rfl rfl (U_alloc) rfl rfl rfl ?_
  refine Rn rfl rfl rfl (U_store1 rfl rfl rfl rfl) rfl ?_
  refine Rv rfl rfl rfl (U_assign rfl) rfl rfl ?_
  refine Re rfl ?_
  refine thenQ_n ?_
  refine WfrN 0 rfl rfl (T' := [(5, .rop [.nilp] 0), (6, i64 4)]) (H' := []) ⟨⟨_, rfl, rfl⟩, ⟨_, rfl, rfl⟩, trivial⟩ trivial ?_
  refine W_seq rfl ?_
  refine W_seq rfl ?_
  refine W_reg rfl ?_
  refine Rv rfl rfl rfl (U_move rfl) rfl rfl ?_
  refine Rv rfl rfl rfl (U_neq rfl rfl) rfl rfl ?_
  refine Re rfl ?_
  refine thenQ_n ?_
  refine WcondP rfl rfl (fun _ => ?_) (fun h => absurd (by decide) h)
  refine W_seq rfl ?_
  refine W_reg rfl ?_
  refine Rv rfl rfl rfl (U_move rfl) rfl rfl ?_
  refine Rv rfl rfl rfl (U_assign rfl) rfl rfl ?_
  refine Rv rfl rfl rfl (U_assign rfl) rfl rfl ?_
  refine Rv rfl rfl rfl (U_assign rfl) rfl rfl ?_
  refine Re rfl ?_
  refine thenQ_n ?_
  refine W_ret rfl ?_
  refine thenQ_r ?_
  exact retL (rlT rfl (rlT rfl (rlT rfl rl0))) rfl rfl
end Go.Proofs.Ythmibifghihdaaa
end

section
namespace Go.Proofs.Ythmibifghihdaaa
set_option maxRecDepth 20000
open Go.AE
def grt (b : Bk) : Bool := decide ((50 : Int) < b.ls.length)
theorem great_p (b : Bk) (c : Option Nat) : Pure Try.prog 18 [bookA b c] (.bool (grt b)) := by
  refine pure_of_body Try.func18 (c := body Try.f18) rfl (by simp [Try.ntmps18]) fun w0 Φ0 => ?_
  refine W_seq rfl ?_
  refine W_reg rfl ?_
  refine Rv rfl rfl rfl (U_boxF rfl rfl rfl) rfl rfl ?_
  refine Rv rfl rfl rfl (U_assign rfl) rfl rfl ?_
  refine Re rfl ?_
  refine thenQ_n ?_
  refine W_seq rfl ?_
  refine W_reg rfl ?_
  refine Rv rfl rfl rfl (U_fieldAddrR rfl) rfl rfl ?_
  refine Rv rfl rfl rfl (U_load1 rfl rfl rfl) rfl rfl ?_
  refine Rv rfl rfl rfl (U_lenOf rfl len_ros) rfl rfl ?_
  refine Rv rfl rfl rfl (U_gtr rfl rfl) rfl rfl ?_
  refine Rv rfl rfl rfl (U_assign rfl) rfl rfl ?_
  refine Re rfl ?_
  refine thenQ_n ?_
  refine W_ret rfl ?_
  exact retL (rlT rfl rl0) (by first | rfl | (simp only [packA]; rfl; first | done | rfl)) rfl
end Go.Proofs.Ythmibifghihdaaa
end

section
namespace Go.Proofs.Ythmibifghihdaaa
set_option maxRecDepth 20000
open Go.AE
section
variable {n : Nat} {ks : List (Nat × Nat)}
end
theorem nilsW {f : FuncId} {a v : AV} (h : Pure Try.prog f [a, .ros [] 0 none] v) : Pure Try.prog f [a, .nils] v := h.weak (leL_cons (le_refl _) (leL_cons le_nils (leL_refl _)))
theorem rulN (b : Bk) (c : Option Nat) (hl : b.ls.length ≤ 1000000) : (∃ e : Int, e ≠ 0 ∧ Pure Try.prog 63 [bookA b c, .nils] (.tup [.nilp, i64 e]) ∧ Pure Try.prog 65 [bookA b c, .nils] (i64 e)) ∨ ∃ (n : Nat) (ks : List (Nat × Nat)), b = ⟨n, ks.map cP⟩ ∧ VB n ks ∧ ks.length ≤ 40 ∧ Acy n ks := by
  by_cases hE : chkB b = 0
  · obtain ⟨n, ks, rfl, hv, h40⟩ := chkB_ok hE
    rcases acy_or n ks with ha | ⟨g, hg⟩
    · exact .inr ⟨n, ks, rfl, hv, h40, ha⟩
    · refine .inl ⟨16, by decide, ?_, ?_⟩
      · rw [bk_eq]; exact nilsW (ruledCY_p n ks c hv h40 [] none (by simp) rfl (by simp) g hg)
      · rw [bk_eq]; exact nilsW (ruledR_CY n ks c hv h40 [] none (by simp) rfl (by simp) g hg)
  · exact .inl ⟨chkB b, hE, nilsW (ruledE_p b c hl hE [] none), nilsW (ruledR_e b c hl hE [] none (by simp))⟩
theorem t_depth (b : Bk) (c : Option Nat) (hl : b.ls.length ≤ 1000000) : ∃ (m e : Int), Pure Try.prog 42 [bookA b c] (.tup [i64 m, i64 e]) ∧ Pure Try.prog 43 [bookA b c] (.tup [i64 m, i64 e]) := by
  rcases rulN b c hl with ⟨e, he, h1, h2⟩ | ⟨n, ks, rfl, hv, h40, ha⟩
  · exact ⟨0, e, depth_e b c hl e he h1, depthR_e b c hl e he h2⟩
  · by_cases h4 : n ≤ 4
    · refine ⟨(depQ n ks : Nat), 0, ?_, ?_⟩
      · rw [bk_eq]; exact depth_g n ks c hv h40 ha h4
      · rw [bk_eq]; exact depthR_g n ks c hv h40 ha h4
    · refine ⟨0, 4, ?_, ?_⟩
      · rw [bk_eq]; exact depth_o n ks c hv h40 ha h4
      · rw [bk_eq]; exact depthR_o n ks c hv h40 ha h4
theorem t_next (b : Bk) (c : Option Nat) (hl : b.ls.length ≤ 1000000) : ∃ (i j e : Int), Pure Try.prog 44 [bookA b c] (.tup [i64 i, i64 j, i64 e]) ∧ Pure Try.prog 45 [bookA b c] (.tup [i64 i, i64 j, i64 e]) := by
  rcases rulN b c hl with ⟨e, he, h1, h2⟩ | ⟨n, ks, rfl, hv, h40, ha⟩
  · exact ⟨0, 0, e, next_e b c hl e he h1, nextR_e b c hl e he h2⟩
  · by_cases h4 : n ≤ 4
    · refine ⟨(((prQ n).find? (gudP (dpQ n) (ords n ks))).getD (0, 0)).1, (((prQ n).find? (gudP (dpQ n) (ords n ks))).getD (0, 0)).2, nxtE ((prQ n).find? (gudP (dpQ n) (ords n ks))), ?_, ?_⟩
      · rw [bk_eq]; exact next_g n ks c hv h40 ha h4
      · rw [bk_eq]; exact nextR_g n ks c hv h40 ha h4
    · refine ⟨0, 0, 4, ?_, ?_⟩
      · rw [bk_eq]; exact next_o n ks c hv h40 ha h4
      · rw [bk_eq]; exact nextR_o n ks c hv h40 ha h4
end Go.Proofs.Ythmibifghihdaaa
end

section
namespace Go.Proofs.Ythmibifghihdaaa
set_option maxRecDepth 20000
open Go.AE
theorem great_T (b : Bk) (c : Option Nat) (h : grt b = true) : Pure Try.prog 18 [bookA b c] (.bool true) := by have := great_p b c; rwa [h] at this
theorem great_F (b : Bk) (c : Option Nat) (h : grt b = false) : Pure Try.prog 18 [bookA b c] (.bool false) := by have := great_p b c; rwa [h] at this
theorem grt_l {b : Bk} (h : grt b = false) : b.ls.length ≤ 1000000 := by simp [grt] at h; omega
theorem depths_a (b : Bk) (c : Option Nat) (hg : grt b = true) : Pure Try.prog 7 [bookA b c] (.bool true) := by
  refine pure_of_body Try.func7 (c := body Try.f7) rfl (by simp [Try.ntmps7]) fun w0 Φ0 => ?_
  refine W_seq rfl ?_
  refine W_reg rfl ?_
  refine Rv rfl rfl rfl (U_boxF rfl rfl rfl) rfl rfl ?_
  refine Rv rfl rfl rfl (U_assign rfl) rfl rfl ?_
  refine Re rfl ?_
  refine thenQ_n ?_
  refine W_seq rfl ?_
  refine W_seq rfl ?_
  refine W_reg rfl ?_
  refine Rv rfl rfl rfl (U_load2 rfl rfl rfl rfl) rfl rfl ?_
  refine Rv rfl rfl rfl (U_call rfl rfl (great_T b c hg) rfl) rfl rfl ?_
  refine Re rfl ?_
  refine thenQ_n ?_
  refine Wcond rfl rfl (fun _ => ?_) (fun h => nomatch h)
  refine W_seq rfl ?_
  refine W_reg rfl ?_
  refine Rv rfl rfl rfl (U_call rfl rfl (works_p) rfl) rfl rfl ?_
  refine Rv rfl rfl rfl (U_assign rfl) rfl rfl ?_
  refine Re rfl ?_
  refine thenQ_n ?_
  refine W_ret rfl ?_
  refine thenQ_r ?_
  exact retL (rlT rfl rl0) rfl rfl
theorem depths_b (b : Bk) (c : Option Nat) (hg : grt b = false) (hl : b.ls.length ≤ 1000000) (m e i j e2 : Int) (h42 : Pure Try.prog 42 [bookA b c] (.tup [i64 m, i64 e])) (h43 : Pure Try.prog 43 [bookA b c] (.tup [i64 m, i64 e])) (h44 : Pure Try.prog 44 [bookA b c] (.tup [i64 i, i64 j, i64 e2])) (h45 : Pure Try.prog 45 [bookA b c] (.tup [i64 i, i64 j, i64 e2])) : Pure Try.prog 7 [bookA b c] (.bool true) := by
  refine pure_of_body Try.func7 (c := body Try.f7) rfl (by simp [Try.ntmps7]) fun w0 Φ0 => ?_
  refine W_seq rfl ?_
  refine W_reg rfl ?_
  refine Rv rfl rfl rfl (U_boxF rfl rfl rfl) rfl rfl ?_
  refine Rv rfl rfl rfl (U_assign rfl) rfl rfl ?_
  refine Re rfl ?_
  refine thenQ_n ?_
  refine W_seq rfl ?_
  refine W_seq rfl ?_
  refine W_reg rfl ?_
  refine Rv rfl rfl rfl (U_load2 rfl rfl rfl rfl) rfl rfl ?_
  refine Rv rfl rfl rfl (U_call rfl rfl (great_F b c hg) rfl) rfl rfl ?_
  refine Re rfl ?_
  refine thenQ_n ?_
  refine Wcond rfl rfl (fun h => nomatch h) (fun _ => ?_)
  refine W_skip rfl ?_
  refine thenQ_n ?_
  refine W_seq rfl ?_
  refine W_reg rfl ?_
  refine Rv rfl rfl rfl (U_load2 rfl rfl rfl rfl) rfl rfl ?_
  refine Rv rfl rfl rfl (U_call rfl rfl (h42) rfl) rfl rfl ?_
  refine Rv rfl rfl rfl (U_move rfl) rfl rfl ?_
  refine Rv rfl rfl rfl (U_extract rfl rfl) rfl rfl ?_
  refine Rv rfl rfl rfl (U_extract rfl rfl) rfl rfl ?_
  refine Rv rfl rfl rfl (U_assign rfl) rfl rfl ?_
  refine Rv rfl rfl rfl (U_assign rfl) rfl rfl ?_
  refine Re rfl ?_
  refine thenQ_n ?_
  refine W_seq rfl ?_
  refine W_reg rfl ?_
  refine Rv rfl rfl rfl (U_load2 rfl rfl rfl rfl) rfl rfl ?_
  refine Rv rfl rfl rfl (U_call rfl rfl (h43) rfl) rfl rfl ?_
  refine Rv rfl rfl rfl (U_move rfl) rfl rfl ?_
  refine Rv rfl rfl rfl (U_extract rfl rfl) rfl rfl ?_
  refine Rv rfl rfl rfl (U_extract rfl rfl) rfl rfl ?_
  refine Rv rfl rfl rfl (U_assign rfl) rfl rfl ?_
  refine Rv rfl rfl rfl (U_assign rfl) rfl rfl ?_
  refine Re rfl ?_
  refine thenQ_n ?_
  refine W_seq rfl ?_
  refine W_reg rfl ?_
  refine Rv rfl rfl rfl (U_load2 rfl rfl rfl rfl) rfl rfl ?_
  refine Rv rfl rfl rfl (U_call rfl rfl (h44) rfl) rfl rfl ?_
  refine Rv rfl rfl rfl (U_move rfl) rfl rfl ?_
  refine Rv rfl rfl rfl (U_extract rfl rfl) rfl rfl ?_
  refine Rv rfl rfl rfl (U_extract rfl rfl) rfl rfl ?_
  refine Rv rfl rfl rfl (U_extract rfl rfl) rfl rfl ?_
  refine Rv rfl rfl rfl (U_assign rfl) rfl rfl ?_
  refine Rv rfl rfl rfl (U_assign rfl) rfl rfl ?_
  refine Rv rfl rfl rfl (U_assign rfl) rfl rfl ?_
  refine Re rfl ?_
  refine thenQ_n ?_
  refine W_seq rfl ?_
  refine W_reg rfl ?_
  refine Rv rfl rfl rfl (U_load2 rfl rfl rfl rfl) rfl rfl ?_
  refine Rv rfl rfl rfl (U_call rfl rfl (h45) rfl) rfl rfl ?_
  refine Rv rfl rfl rfl (U_move rfl) rfl rfl ?_
  refine Rv rfl rfl rfl (U_extract rfl rfl) rfl rfl ?_
  refine Rv rfl rfl rfl (U_extract rfl rfl) rfl rfl ?_
  refine Rv rfl rfl rfl (U_extract rfl rfl) rfl rfl ?_
  refine Rv rfl rfl rfl (U_assign rfl) rfl rfl ?_
  refine Rv rfl rfl rfl (U_assign rfl) rfl rfl ?_
  refine Rv rfl rfl rfl (U_assign rfl) rfl rfl ?_
  refine Re rfl ?_
  refine thenQ_n ?_
  refine W_seq rfl ?_
  refine W_reg rfl ?_
  refine Rv rfl rfl rfl (U_move rfl) rfl rfl ?_
  refine Rv rfl rfl rfl (U_move rfl) rfl rfl ?_
  refine Rv rfl rfl rfl (U_eqlS rfl rfl) rfl rfl ?_
  refine Rv rfl rfl rfl (U_move rfl) rfl rfl ?_
  refine Rv rfl rfl rfl (U_move rfl) rfl rfl ?_
  refine Rv rfl rfl rfl (U_move rfl) rfl rfl ?_
  refine Rv rfl rfl rfl (U_eqlS rfl rfl) rfl rfl ?_
  refine Rv rfl rfl rfl (U_pick_t rfl rfl) rfl rfl ?_
  refine Rv rfl rfl rfl (U_move rfl) rfl rfl ?_
  refine Rv rfl rfl rfl (U_move rfl) rfl rfl ?_
  refine Rv rfl rfl rfl (U_move rfl) rfl rfl ?_
  refine Rv rfl rfl rfl (U_eqlS rfl rfl) rfl rfl ?_
  refine Rv rfl rfl rfl (U_pick_t rfl rfl) rfl rfl ?_
  refine Rv rfl rfl rfl (U_move rfl) rfl rfl ?_
  refine Rv rfl rfl rfl (U_move rfl) rfl rfl ?_
  refine Rv rfl rfl rfl (U_move rfl) rfl rfl ?_
  refine Rv rfl rfl rfl (U_eqlS rfl rfl) rfl rfl ?_
  refine Rv rfl rfl rfl (U_pick_t rfl rfl) rfl rfl ?_
  refine Rv rfl rfl rfl (U_move rfl) rfl rfl ?_
  refine Rv rfl rfl rfl (U_move rfl) rfl rfl ?_
  refine Rv rfl rfl rfl (U_move rfl) rfl rfl ?_
  refine Rv rfl rfl rfl (U_eqlS rfl rfl) rfl rfl ?_
  refine Rv rfl rfl rfl (U_pick_t rfl rfl) rfl rfl ?_
  refine Rv rfl rfl rfl (U_move rfl) rfl rfl ?_
  refine Rv rfl rfl rfl (U_call rfl rfl (works_p) rfl) rfl rfl ?_
  refine Rv rfl rfl rfl (U_pick_t rfl rfl) rfl rfl ?_
  refine Rv rfl rfl rfl (U_assign rfl) rfl rfl ?_
  refine Re rfl ?_
  refine thenQ_n ?_
  refine W_ret rfl ?_
  exact retL (rlT rfl rl0) rfl rfl
theorem rankDepths_p (b : Bk) (c : Option Nat) : Pure Try.prog 7 [bookA b c] (.bool true) := by
  cases hg : grt b with
  | true => exact depths_a b c hg
  | false =>
    have hl := grt_l hg
    obtain ⟨m, e, h1, h2⟩ := t_depth b c hl
    obtain ⟨i, j, e2, h3, h4⟩ := t_next b c hl
    exact depths_b b c hg hl m e i j e2 h1 h2 h3 h4
end Go.Proofs.Ythmibifghihdaaa
end
