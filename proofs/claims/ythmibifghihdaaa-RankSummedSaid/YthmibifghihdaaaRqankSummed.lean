import Derived.ChangeKeysEq
import Derived.WideKeyRuns
import Derived.WalkSpells
import Derived.Test.YthmibifghihdaaaM5
set_option linter.all false
section
namespace Go.AE
open Go.RowKit
section
variable {P : Program}
end
section ops
variable {C : Ctx} {T : AT} {H : AH} {nx : Nat} {d : Option Tmp} {ty : TypeId} {pos : String} {after : Array Edge} {g : Option (Nat × Bool)}
theorem U_eqlB {t t' : TypeId} {x y : Operand} {a b : Bool} [hT : TyBool C.P t] (hx : ev T x = some (.bool a)) (hy : ev T y = some (.bool b)) : OpU C ⟨d, .binOp .eql t x y t', ty, pos, after, g⟩ T H nx (.bool (decide (a = b))) [] nx :=
  OpU.of_value (by intro c; simp) fun ρ Φ ac w h2 _ => ⟨.bool (decide (a = b)), by
    simp [execOp, con_bool (ev_con h2 hx), con_bool (ev_con h2 hy), eqGuard, binOp, Op.equal, Op.maxDepth, run_equalIn_bool w 9999 t a b hT.un]
    cases a <;> cases b <;> rfl, mk_bool⟩
end ops
section
variable {P : Program} {w0 : World} {Φ0 : Fz} {nt : Nat} {T : AT} {H : AH} {nx : Nat}
end
end Go.AE
end

section
namespace Go.Proofs.Ythmibifghihdaaa
set_option maxRecDepth 20000
open Go.AE
theorem chkB_ok {b : Bk} (h : chkB b = 0) : ∃ (n : Nat) (ks : List (Nat × Nat)), b = ⟨n, ks.map cP⟩ ∧ VB n ks ∧ ks.length ≤ 40 := by
  unfold chkB at h
  split at h
  · omega
  · rename_i h1
    split at h
    · omega
    · rename_i h2
      have h1' : (1 ≤ b.n ∧ b.n ≤ 10) ∧ b.ls.length ≤ 40 := by simp [inL1] at h1; omega
      have h2' : ∀ p ∈ b.ls, (0 ≤ p.1 ∧ p.1 < b.n) ∧ (0 ≤ p.2 ∧ p.2 < b.n) ∧ p.1 ≠ p.2 := by
        intro p hp
        have : strB b.n p = false := by
          cases e : strB b.n p with
          | false => rfl
          | true => exact absurd (List.any_eq_true.2 ⟨p, hp, e⟩) h2
        rw [strB_eq] at this; simp [staB] at this; omega
      refine ⟨b.n.toNat, b.ls.map fun p => (p.1.toNat, p.2.toNat), ?_, ⟨by omega, by omega, by simp; omega, fun p hp => ?_⟩, by simp; omega⟩
      · obtain ⟨n, ls⟩ := b
        simp only at h1' h2'
        have e1 : ((n.toNat : Nat) : Int) = n := by omega
        have e2 : (ls.map fun p => (p.1.toNat, p.2.toNat)).map cP = ls := by
          rw [List.map_map]
          refine (List.map_congr_left fun p hp => ?_).trans (List.map_id _)
          have := h2' p hp
          refine Prod.ext ?_ ?_ <;> simp [cP] <;> omega
        rw [e1, e2]
      · obtain ⟨q, hq, rfl⟩ := List.mem_map.1 hp
        have := h2' q hq
        refine ⟨?_, ?_, ?_⟩ <;> simp only <;> omega
end Go.Proofs.Ythmibifghihdaaa
end

section
namespace Go.Proofs.Ythmibifghihdaaa
set_option maxRecDepth 20000
open Go.AE
section
variable {n : Nat} {ks : List (Nat × Nat)} {m : Nat}
theorem nxB_R (hv : VB n ks) {bf : Nat → Nat} (hb : ∀ a x, (bf a).testBit x = true ↔ (x, a) ∈ ks) {m a : Nat} (h : nxB (briQ n ks) m a = true) : nxR bf m a = true := by
  rw [nxR_iff hb]
  have := (nxB_iff hv).1 h
  exact ⟨this.1, fun x hx => this.2 x (.one hx)⟩
theorem en_same (hv : VB n ks) {bf : Nat → Nat} (hb : ∀ a x, (bf a).testBit x = true ↔ (x, a) ∈ ks) : ∀ (k m : Nat), cntN n m + k = n → m < 2 ^ n → DC ks m → en n (nxB (briQ n ks)) m = en n (nxR bf) m
  | 0, m, h, hm, _ => by
    have e : m = full n := Classical.byContradiction fun e => by have := cnt_lt hm e; omega
    subst e; rw [en_full, en_full]
  | k + 1, m, h, hm, hd => by
    by_cases e : m = full n
    · subst e; rw [en_full, en_full]
    · rw [en_eq (nxB_nxt _) hm e, en_eq (nxR_nxt _) hm e]
      refine sum_congr fun a ha => ?_
      rw [nx_same hv hb hd]
      split
      · rename_i h1
        have h2 := nxR_nxt _ _ _ h1
        have h3 := cnt_ad (List.mem_range.1 ha) h2
        exact en_same hv hb k _ (by omega) (ad_lt hm (List.mem_range.1 ha)) (dc_ad hd ((nxR_iff hb).1 h1).2)
      · rfl
end
end Go.Proofs.Ythmibifghihdaaa
end

section
namespace Go.Proofs.Ythmibifghihdaaa
set_option maxRecDepth 20000
open Go.AE
theorem chance_gY (n : Nat) (ks : List (Nat × Nat)) (c : Option Nat) (hv : VB n ks) (h40 : ks.length ≤ 40) (ha : Acy n ks) (a b : Nat) (ha2 : a < n) (hb2 : b < n) (hab : a ≠ b) (hpos : 0 < cntQ n ks) (g2 : Nat) (h2 : Cyc n (ks ++ [(a, b)]) g2) : Pure Try.prog 35 [bknA n ks c, i64 (a : Nat), i64 (b : Nat)] (.tup [.agg [i64 ((frN 0 (cntQ n ks) : Nat) : Int), i64 ((frD 0 (cntQ n ks) : Nat) : Int)], i64 0]) := by
  have hv' := hv
  obtain ⟨hn1, hn, hkl, hk⟩ := hv'
  have hk2 := vb_lt hv
  have hin := in2 ha2 hb2
  have hne : ¬ (a : Int) = b := by omega
  have hv2 := vb_snoc hv (by omega) ha2 hb2 hab
  have hle := cntQ_le hv
  have hle2 := cntQ_le hv2
  refine pure_of_body Try.func35 (c := body Try.f35) rfl (by simp [Try.ntmps35]) fun w0 Φ0 => ?_
  refine W_seq rfl ?_
  refine W_reg rfl ?_
  refine Rv rfl rfl rfl (U_boxF rfl rfl rfl) rfl rfl ?_
  refine Ra rfl rfl rfl (U_alloc) rfl rfl rfl ?_
  refine Rv rfl rfl rfl (U_assign rfl) rfl rfl ?_
  refine Re rfl ?_
  refine thenQ_n ?_
  refine W_seq rfl ?_
  refine W_reg rfl ?_
  refine Rv rfl rfl rfl (U_load2 rfl rfl rfl rfl) rfl rfl ?_
  refine Rv rfl rfl rfl (U_move rfl) rfl rfl ?_
  refine Rv rfl rfl rfl (U_move rfl) rfl rfl ?_
  refine Rv rfl rfl rfl (U_buildSliceF (by rfl) (by decide) rfl rfl rfl) rfl rfl ?_
  refine Rv rfl rfl rfl (U_call rfl rfl (ruledDG_p n ks c hv h40 ((a : Nat) : Int) ((b : Nat) : Int) (some 2) (by assumption) (by assumption) ha) rfl) rfl rfl ?_
  refine Rv rfl rfl rfl (U_move rfl) rfl rfl ?_
  refine Rv rfl rfl rfl (U_extract rfl rfl) rfl rfl ?_
  refine Rv rfl rfl rfl (U_extract rfl rfl) rfl rfl ?_
  refine Rv rfl rfl rfl (U_assign rfl) rfl rfl ?_
  refine Rv rfl rfl rfl (U_assign rfl) rfl rfl ?_
  refine Re rfl ?_
  refine thenQ_n ?_
  refine W_seq rfl ?_
  refine W_seq rfl ?_
  refine W_reg rfl ?_
  refine Rv rfl rfl rfl (U_move rfl) rfl rfl ?_
  refine Rv rfl rfl rfl (U_neq rfl rfl) rfl rfl ?_
  refine Re rfl ?_
  refine thenQ_n ?_
  refine WcondP rfl rfl (fun h => absurd h (by decide)) (fun _ => ?_)
  refine W_skip rfl ?_
  refine thenQ_n ?_
  refine W_seq rfl ?_
  refine W_reg rfl ?_
  refine Rv rfl rfl rfl (U_move rfl) rfl rfl ?_
  refine Rv rfl rfl rfl (U_call rfl rfl (countK_p n ks c hv) rfl) rfl rfl ?_
  refine Rv rfl rfl rfl (U_assign rfl) rfl rfl ?_
  refine Rv rfl rfl rfl (U_assign rfl) rfl rfl ?_
  refine Re rfl ?_
  refine thenQ_n ?_
  refine W_seq rfl ?_
  refine W_seq rfl ?_
  refine W_reg rfl ?_
  refine Rv rfl rfl rfl (U_move rfl) rfl rfl ?_
  refine Rv rfl rfl rfl (U_move rfl) rfl rfl ?_
  refine Rv rfl rfl rfl (U_move rfl) rfl rfl ?_
  refine Rv rfl rfl rfl (U_call rfl rfl (with_p n ks c (seQ ks) (faQ n ks) (briQ n ks) (by omega) (by omega) (by assumption) a b (by first | assumption | omega) (by first | assumption | omega)) rfl) rfl rfl ?_
  refine Rv rfl rfl rfl (U_assign rfl) rfl rfl ?_
  refine Re rfl ?_
  refine thenQ_n ?_
  refine W_seq rfl ?_
  refine W_reg rfl ?_
  refine Rv rfl rfl rfl (U_move rfl) rfl rfl ?_
  refine Rv rfl rfl rfl (U_call rfl rfl (circleY_p n (ks ++ [(a, b)]) none hv2 g2 h2) rfl) rfl rfl ?_
  refine Rv rfl rfl rfl (U_eqRos (by simp) rfl rfl) rfl rfl ?_
  refine Re rfl ?_
  refine thenQ_n ?_
  refine Wcond rfl rfl (fun h => nomatch h) (fun _ => ?_)
  refine W_skip rfl ?_
  refine thenQ_n ?_
  refine W_seq rfl ?_
  refine W_reg rfl ?_
  refine Rv rfl rfl rfl (U_move rfl) rfl rfl ?_
  refine Rv rfl rfl rfl (U_move rfl) rfl rfl ?_
  refine Rv rfl rfl rfl (U_assign rfl) rfl rfl ?_
  refine Rv rfl rfl rfl (U_assign rfl) rfl rfl ?_
  refine Re rfl ?_
  refine thenQ_n ?_
  refine W_seq rfl ?_
  refine W_block rfl ?_
  refine LoopTo (T' := [(6, .ptr 0 0), (10, i64 0), (11, i64 ((cntQ n ks : Nat) : Int)), (13, i64 ((0 : Nat) : Int)), (14, i64 (((cntQ n ks) : Nat) : Int))]) (H' := [(0, some (.cells [i64 0, i64 0] 40))]) (n := 1) rfl (fun mz_ qz_ => ∃ (x : Nat) (y : Nat), Nat.gcd x y = Nat.gcd 0 (cntQ n ks) ∧ x ≤ 3628800 ∧ y ≤ 3628800 ∧ (0 < x ∨ 0 < y) ∧ mz_ = 0 + y ∧ qz_ = ⟨[(6, .ptr 0 0), (10, i64 0), (11, i64 ((cntQ n ks : Nat) : Int)), (13, i64 ((x : Nat) : Int)), (14, i64 ((y : Nat) : Int))], [(0, some (.cells [i64 0, i64 0] 40))], 1, []⟩) ⟨0, cntQ n ks, rfl, (by omega), (by omega), (by omega), rfl, rfl⟩ id ⟨e_ rfl rfl, eD rfl rfl, eD rfl rfl, eD rfl rfl, eD rfl rfl, trivial⟩ ⟨rD rfl rfl rfl, trivial⟩ rfl rfl rfl rfl (fun _ _ => rfl) ?_
  rintro _ _ ⟨x, y, hi0_0, hi0_1, hi0_2, hi0_3, rfl, rfl⟩
  refine W_seq rfl ?_
  refine W_seq rfl ?_
  refine W_reg rfl ?_
  refine Rv rfl rfl rfl (U_move rfl) rfl rfl ?_
  refine Rv rfl rfl rfl (U_neq rfl rfl) rfl rfl ?_
  refine Re rfl ?_
  refine thenQ_n ?_
  refine WcondP rfl rfl (fun hc2 => ?_) (fun hc2 => ?_)
  · refine W_skip rfl ?_
    refine thenQ_n ?_
    refine W_block rfl ?_
    refine Wdraw rfl (by kernel_rfl) (by kernel_rfl) ?_
    refine Dv rfl rfl rfl (U_move rfl) rfl rfl ?_
    refine Dv rfl rfl rfl (U_move rfl) rfl rfl ?_
    refine Dv rfl rfl rfl (U_move rfl) rfl rfl ?_
    refine Dv rfl rfl rfl (U_rem (c := ((x % y : Nat) : Int)) rfl rfl (by omega) (tmodN _ _)) rfl rfl ?_
    refine Dv rfl rfl rfl (U_assign rfl) rfl rfl ?_
    refine Dv rfl rfl rfl (U_assign rfl) rfl rfl ?_
    refine Dr.nil rfl ?_
    refine blkQ_n ?_
    refine thenQ_n ?_
    exact againTo (T' := [(6, .ptr 0 0), (10, i64 0), (11, i64 ((cntQ n ks : Nat) : Int)), (13, i64 ((y : Nat) : Int)), (14, i64 (((x % y) : Nat) : Int))]) (H' := [(0, some (.cells [i64 0, i64 0] 40))]) (n := 1) (0 + (x % y)) ⟨y, x % y, (by rw [gcd_step]; exact hi0_0), (by omega), (by have := Nat.mod_lt x (show y > 0 by omega); omega), (by omega), rfl, rfl⟩ (by have := Nat.mod_lt x (show y > 0 by omega); omega) id ⟨e_ rfl rfl, eD rfl rfl, eD rfl rfl, eD rfl rfl, eD rfl rfl, trivial⟩ ⟨rD rfl rfl rfl, trivial⟩ rfl rfl rfl rfl (fun _ _ => rfl)
  · rw [Decidable.not_not] at hc2
    have hy : y = 0 := by omega
    subst hy
    rw [Nat.gcd_zero_right] at hi0_0
    refine W_exit rfl ?_
    refine thenQ_x ?_
    refine thenQ_x ?_
    refine blkQ_x rfl ?_
    refine thenQ_n ?_
    refine W_seq rfl ?_
    refine Wdraw rfl (by kernel_rfl) (by kernel_rfl) ?_
    refine Dv rfl rfl rfl (U_move rfl) rfl rfl ?_
    refine Dv rfl rfl rfl (U_move rfl) rfl rfl ?_
    refine Dv rfl rfl rfl (U_quo (c := ((0 / x : Nat) : Int)) rfl rfl (by omega) (wquoN (a := 0) (by omega))) rfl rfl ?_
    refine Dv rfl rfl rfl (U_move rfl) rfl rfl ?_
    refine Dv rfl rfl rfl (U_move rfl) rfl rfl ?_
    refine Dv rfl rfl rfl (U_quo (c := (((cntQ n ks) / x : Nat) : Int)) rfl rfl (by omega) (wquoN (by omega))) rfl rfl ?_
    refine Dv rfl rfl rfl (U_build rfl rfl) rfl rfl ?_
    refine Dn_ rfl rfl rfl (U_storeAll rfl rfl rfl rfl rfl rfl) rfl rfl ?_
    refine Dv rfl rfl rfl (U_assign rfl) rfl rfl ?_
    refine Dr.nil rfl ?_
    refine thenQ_n ?_
    refine W_ret rfl ?_
    exact retL (rlA rfl rfl rfl (rlT rfl rl0)) (by first | rfl | (simp only [packA]; rw [frN, frD, ← hi0_0]; first | done | rfl)) rfl
end Go.Proofs.Ythmibifghihdaaa
end

section
namespace Go.Proofs.Ythmibifghihdaaa
set_option maxRecDepth 20000
open Go.AE
theorem idx_at {q : List Nat} (hn : q.Nodup) {i : Nat} (hi : i < q.length) : idxI (fun y => decide (q[i] = y)) q = i :=
  idx_hit hi (fun j hj h => by
    have := List.pairwise_iff_getElem.1 hn j i hj hi h
    simp; exact fun e => this e.symm) (by simp)
end Go.Proofs.Ythmibifghihdaaa
end

section
namespace Go.Proofs.Ythmibifghihdaaa
set_option maxRecDepth 20000
open Go.AE
theorem bfL_S {n : Nat} {ks : List (Nat × Nat)} {k : Nat} (h : k < ks.length) : bfL n (ks.take (k + 1)) = (bfL n (ks.take k)).set ks[k].2 ((bfL n (ks.take k)).getD ks[k].2 0 ||| 1 <<< ks[k].1) := by
  unfold bfL; rw [List.take_succ_eq_append_getElem h, List.foldl_append]; rfl
theorem bf_ok : ∀ (ks : List (Nat × Nat)) (o : List Nat), (∀ x ∈ o, x < 1024) → (∀ p ∈ ks, p.1 < 10) → (ks.foldl (fun o p => o.set p.2 (o.getD p.2 0 ||| 1 <<< p.1)) o).length = o.length ∧ ∀ x ∈ ks.foldl (fun o p => o.set p.2 (o.getD p.2 0 ||| 1 <<< p.1)) o, x < 1024
  | [], o, h, _ => ⟨rfl, h⟩
  | p :: ks, o, h, hk => by
    have h1 : o.getD p.2 0 < 1024 := by
      by_cases e : p.2 < o.length
      · rw [getD_eq e]; exact h _ (List.getElem_mem _)
      · rw [List.getD_eq_getElem?_getD, List.getElem?_eq_none (by omega)]; decide
    have := bf_ok ks (o.set p.2 (o.getD p.2 0 ||| 1 <<< p.1)) (fun x hx => by
      rcases List.mem_or_eq_of_mem_set hx with hx | rfl
      · exact h x hx
      · exact or1024 h1 (shl1024 (hk p (by simp)))) fun q hq => hk q (by simp [hq])
    rw [List.length_set] at this
    exact this
section
variable {n : Nat} {ks : List (Nat × Nat)}
theorem bfL_len (hv : VB n ks) (k : Nat) : (bfL n (ks.take k)).length = n := by
  have := (bf_ok (ks.take k) (List.replicate n 0) (by simp) fun p hp => (vb10 hv p (List.mem_of_mem_take hp)).1).1
  simpa [bfL] using this
theorem bfL_lt (hv : VB n ks) (k : Nat) : ∀ x ∈ bfL n (ks.take k), x < 1024 := (bf_ok (ks.take k) (List.replicate n 0) (by simp) fun p hp => (vb10 hv p (List.mem_of_mem_take hp)).1).2
theorem bfL_len' (hv : VB n ks) : (bfL n ks).length = n := by have := bfL_len hv ks.length; rwa [List.take_length] at this
theorem bfL_lt' (hv : VB n ks) : ∀ x ∈ bfL n ks, x < 1024 := by have := bfL_lt hv ks.length; rwa [List.take_length] at this
end
section
variable {n : Nat} {nx : Nat → Nat → Bool}
def upK (n : Nat) (nx : Nat → Nat → Bool) (s k : Nat) : List Nat := (List.range (1 <<< n)).map fun j => Wp n nx s j + ((List.range k).map fun a => if (nx s a && decide (ad s a = j)) = true then up n nx s else 0).sum
theorem upK_len {s k : Nat} : (upK n nx s k).length = 1 <<< n := by simp [upK]
theorem upK_at {s k j : Nat} (h : j < (upK n nx s k).length) : (upK n nx s k)[j] = Wp n nx s j + ((List.range k).map fun a => if (nx s a && decide (ad s a = j)) = true then up n nx s else 0).sum := by simp [upK]
theorem upK_0 : (List.replicate (1 <<< n) 0).set 0 1 = upK n nx 0 0 := by
  refine List.ext_getElem (by simp [upK]) fun j h1 h2 => ?_
  rw [upK_at, List.getElem_set, Wp_0]
  by_cases e : j = 0
  · subst e; simp
  · simp [e, show ¬ 0 = j by omega]
theorem upK_all (hx : Nxt nx) {s : Nat} : upK n nx s n = upK n nx (s + 1) 0 := by
  refine List.ext_getElem (by simp [upK]) fun j h1 h2 => ?_
  rw [upK_at, upK_at, Wp_S hx]; simp
theorem upK_self (hx : Nxt nx) {s k : Nat} (hs : s < 2 ^ n) (h : s < (upK n nx s k).length) : (upK n nx s k)[s] = up n nx s := by
  rw [upK_at, Wp_end hs (Nat.le_refl _)]
  have : ((List.range k).map fun a => if (nx s a && decide (ad s a = s)) = true then up n nx s else 0) = (List.range k).map fun _ => 0 := List.map_congr_left fun a _ => by
    rw [if_neg]
    intro h
    simp only [Bool.and_eq_true, decide_eq_true_eq] at h
    have := ad_gt (hx _ _ h.1); omega
  rw [this]
  have e : ∀ (l : List Nat), (l.map fun _ => 0).sum = 0 := fun l => by induction l with | nil => rfl | cons x l ih => simpa using ih
  rw [e]; omega
theorem upK_T (hx : Nxt nx) {s k : Nat} (hs : s < 2 ^ n) (h : nx s k = true) {u v : Nat} (hi : ad s k < (upK n nx s k).length) (hu : u = (upK n nx s k)[ad s k]) (hv : v = up n nx s) : (upK n nx s k).set (ad s k) (u + v) = upK n nx s (k + 1) := by
  refine List.ext_getElem (by simp [upK]) fun j h1 h2 => ?_
  rw [List.getElem_set]
  split
  · rename_i e; subst e
    rw [hu, hv, upK_at, upK_at, List.range_succ, List.map_append, List.sum_append]; simp [h]; omega
  · rename_i e
    rw [upK_at, upK_at, List.range_succ, List.map_append, List.sum_append]; simp [e]
theorem upK_F {s k : Nat} (h : nx s k = false) : upK n nx s k = upK n nx s (k + 1) := by
  refine List.ext_getElem (by simp [upK]) fun j h1 h2 => ?_
  rw [upK_at, upK_at, List.range_succ, List.map_append, List.sum_append]; simp [h]
theorem upK_le (hn : n ≤ 10) (hx : Nxt nx) {s k j : Nat} (hk : k ≤ n) (hj : j < 2 ^ n) (h : j < (upK n nx s k).length) : (upK n nx s k)[j] ≤ 3628800 := by
  rw [upK_at]
  have h1 := Wp_mono (nx := nx) (s := s + 1) hj
  rw [Wp_S hx] at h1
  have h2 : ((List.range k).map fun a => if (nx s a && decide (ad s a = j)) = true then up n nx s else 0).sum ≤ ((List.range n).map fun a => if (nx s a && decide (ad s a = j)) = true then up n nx s else 0).sum := by
    obtain ⟨d, rfl⟩ : ∃ d, n = k + d := ⟨n - k, by omega⟩
    rw [List.range_add, List.map_append, List.sum_append]; omega
  exact Nat.le_trans (Nat.le_trans (Nat.add_le_add_left h2 _) h1) (up_lt hn hj)
theorem upK_end {j : Nat} (hj : j < 2 ^ n) (h : j < (upK n nx (1 <<< n) 0).length) : (upK n nx (1 <<< n) 0)[j] = up n nx j := by
  rw [upK_at, Wp_end hj (by rw [one_shl]; omega)]; simp
def enR (n : Nat) (nx : Nat → Nat → Bool) (m k : Nat) : Nat := if m = full n then 1 else enP n nx m ((List.range k).filter (nx m))
def enK (n : Nat) (nx : Nat → Nat → Bool) (m k : Nat) : List Nat := (enV n nx (m + 1)).set m (enR n nx m k)
theorem enK_len {m k : Nat} : (enK n nx m k).length = 1 <<< n := by simp [enK, enV_len]
theorem enK_0 {m : Nat} (hm : m < 2 ^ n) : enK n nx m 0 = enV n nx (min (m + 1) (full n)) := by
  refine List.ext_getElem (by simp [enK, enV_len]) fun j h1 h2 => ?_
  have hj : j < 2 ^ n := by rw [enK_len] at h1; rwa [← one_shl (n := n)]
  have hf : full n = 2 ^ n - 1 := rfl
  simp only [enK]
  rw [List.getElem_set]
  split
  · rename_i e; subst e
    rw [enV_at]
    unfold enR
    split
    · rename_i e2; rw [if_pos (by omega)]; conv => rhs; rw [e2]
      exact en_full.symm
    · rename_i e2; rw [if_neg (by omega)]; rfl
  · rename_i e
    rw [enV_at, enV_at]
    by_cases h3 : m + 1 ≤ j
    · rw [if_pos h3, if_pos (by omega)]
    · rw [if_neg h3, if_neg (by omega)]
theorem enR_all (hx : Nxt nx) {m : Nat} (hm : m < 2 ^ n) : enR n nx m n = en n nx m := by
  unfold enR
  split
  · rename_i e; subst e; exact en_full.symm
  · rename_i e
    rw [enP, sum_filter, en_eq hx hm e]
theorem enK_all (hx : Nxt nx) {m : Nat} (hm : m < 2 ^ n) : enK n nx m n = enV n nx (min m (full n)) := by
  rw [enK, enR_all hx hm, enV_set]
  have : full n = 2 ^ n - 1 := rfl
  rw [Nat.min_eq_left (by omega)]
theorem enR_T {m k : Nat} (hne : m ≠ full n) (h : nx m k = true) : enR n nx m (k + 1) = enR n nx m k + en n nx (ad m k) := by
  unfold enR
  rw [if_neg hne, if_neg hne, List.range_succ, List.filter_append]
  simp [enP, h]
theorem enR_F {m k : Nat} (h : nx m k = false) : enR n nx m (k + 1) = enR n nx m k := by
  unfold enR
  rw [List.range_succ, List.filter_append]
  simp [h]
theorem enK_T {m k : Nat} (hne : m ≠ full n) (h : nx m k = true) {u v : Nat} (hu : u = enR n nx m k) (hv : v = en n nx (ad m k)) : (enK n nx m k).set m (u + v) = enK n nx m (k + 1) := by
  rw [hu, hv, ← enR_T hne h, enK, enK, List.set_set]
theorem enK_F {m k : Nat} (h : nx m k = false) : enK n nx m k = enK n nx m (k + 1) := by rw [enK, enK, enR_F h]
theorem enR_le (hn : n ≤ 10) (hx : Nxt nx) {m k : Nat} (hm : m < 2 ^ n) (hk : k ≤ n) : enR n nx m k ≤ 3628800 := by
  have h1 := en_lt hx hn hm
  rw [← enR_all hx hm] at h1
  have h2 : enR n nx m k ≤ enR n nx m n := by
    unfold enR
    split
    · exact Nat.le_refl _
    · obtain ⟨d, rfl⟩ : ∃ d, n = k + d := ⟨n - k, by omega⟩
      rw [List.range_add, List.filter_append, enP, enP, List.map_append, List.sum_append]; omega
  omega
theorem enK_at1 {m k : Nat} (h : m < (enK n nx m k).length) : (enK n nx m k)[m] = enR n nx m k := by simp [enK]
theorem enK_at2 {m k j : Nat} (h : m < j) (hj : j < (enK n nx m k).length) : (enK n nx m k)[j] = en n nx j := by
  simp only [enK]
  rw [List.getElem_set_ne (by omega), enV_at, if_pos (by omega)]
theorem nx_full (hx : Nxt nx) {k : Nat} (hk : k < n) : nx (full n) k = false := by
  cases e : nx (full n) k with
  | false => rfl
  | true => have := hx _ _ e; rw [full_tb] at this; simp at this; omega
end
end Go.Proofs.Ythmibifghihdaaa
end

section
namespace Go.Proofs.Ythmibifghihdaaa
set_option maxRecDepth 20000
open Go.AE
theorem before_p (n : Nat) (ks : List (Nat × Nat)) (c : Option Nat) (hv : VB n ks) : Pure Try.prog 66 [bknA n ks c] (.ros ((bfL n ks).map n64) n none) := by
  have hv' := hv
  obtain ⟨hn1, hn, hkl, hk⟩ := hv'
  have h1024 := shl_le hn
  have h2n := shl_ge hn1
  refine pure_of_body Try.func66 (c := body Try.f66) rfl (by simp [Try.ntmps66]) fun w0 Φ0 => ?_
  refine W_seq rfl ?_
  refine W_reg rfl ?_
  refine Rv rfl rfl rfl (U_boxF rfl rfl rfl) rfl rfl ?_
  refine Rv rfl rfl rfl (U_assign rfl) rfl rfl ?_
  refine Re rfl ?_
  refine thenQ_n ?_
  refine W_seq rfl ?_
  refine W_reg rfl ?_
  refine Rv rfl rfl rfl (U_fieldAddrR rfl) rfl rfl ?_
  refine Rv rfl rfl rfl (U_load1 rfl rfl rfl) rfl rfl ?_
  refine Ra rfl rfl rfl (U_mkL (n := n) (cs' := (List.replicate n (0 : Nat)).map n64) rfl rfl rfl (by omega) (replM rfl _)) rfl rfl rfl ?_
  refine Rv rfl rfl rfl (U_assign rfl) rfl rfl ?_
  refine Re rfl ?_
  refine thenQ_n ?_
  refine W_seq rfl ?_
  refine W_seq rfl ?_
  refine W_reg rfl ?_
  refine Rv rfl rfl rfl (U_assign rfl) rfl rfl ?_
  refine Re rfl ?_
  refine thenQ_n ?_
  refine W_block rfl ?_
  refine LoopTo (T' := [(1, .rop [i64 ((n : Nat) : Int), .ros (ks.flatMap lkN) ks.length c] 0), (3, .slice 0 0 n n), (4, i64 ((0 : Nat) : Int))]) (H' := [(0, some (.cells ((bfL n (ks.take 0)).map n64) 3))]) (n := 1) rfl (fun mz_ qz_ => ∃ (k : Nat), k ≤ ks.length ∧ mz_ = ks.length - k ∧ qz_ = ⟨[(1, .rop [i64 ((n : Nat) : Int), .ros (ks.flatMap lkN) ks.length c] 0), (3, .slice 0 0 n n), (4, i64 ((k : Nat) : Int))], [(0, some (.cells ((bfL n (ks.take k)).map n64) 3))], 1, []⟩) ⟨0, (by omega), rfl, rfl⟩ id ⟨eD rfl rfl, e_ rfl rfl, eD rfl rfl, trivial⟩ ⟨rD (mapD (fun _ => rfl) _) rfl rfl, trivial⟩ rfl rfl rfl rfl (fun _ _ => rfl) ?_
  rintro _ _ ⟨k, hi0_0, rfl, rfl⟩
  refine W_seq rfl ?_
  refine W_seq rfl ?_
  refine W_reg rfl ?_
  refine Rv rfl rfl rfl (U_move rfl) rfl rfl ?_
  refine Rv rfl rfl rfl (U_fieldAddrR rfl) rfl rfl ?_
  refine Rv rfl rfl rfl (U_load1 rfl rfl rfl) rfl rfl ?_
  refine Rv rfl rfl rfl (U_lenOf rfl len_ros) rfl rfl ?_
  refine Rv rfl rfl rfl (U_lss rfl rfl) rfl rfl ?_
  refine Re rfl ?_
  refine thenQ_n ?_
  refine WcondP rfl rfl (fun hc0 => ?_) (fun hc0 => ?_)
  · have hck : k < ks.length := by omega
    have hkp := hk _ (List.getElem_mem hck)
    have hbl := bfL_len hv k
    have hbi : ks[k].2 < (bfL n (ks.take k)).length := by omega
    have hbx : (bfL n (ks.take k))[ks[k].2] < 1024 := bfL_lt hv k _ (List.getElem_mem _)
    refine W_skip rfl ?_
    refine thenQ_n ?_
    refine W_seq rfl ?_
    refine W_block rfl ?_
    refine Wdraw rfl (by kernel_rfl) (by kernel_rfl) ?_
    refine Dv rfl rfl rfl (U_move rfl) rfl rfl ?_
    refine Dv rfl rfl rfl (U_fieldAddrR rfl) rfl rfl ?_
    refine Dv rfl rfl rfl (U_load1 rfl rfl rfl) rfl rfl ?_
    refine Dv rfl rfl rfl (U_move rfl) rfl rfl ?_
    have hx1 : k < ks.length := by omega
    refine Dv rfl rfl rfl (U_indexR (j := k) rfl rfl rfl hx1) rfl rfl ?_
    refine Dv rfl rfl rfl (U_indexAR (j := 1) rfl rfl rfl (by decide)) rfl rfl ?_
    refine Dv rfl rfl rfl (U_load1 rfl rfl (lkH1 hx1)) rfl rfl ?_
    have hx2 : ks[k].2 < (bfL n (ks.take k)).length := by omega
    refine Dv rfl rfl rfl (U_indexS (j := ks[k].2) rfl rfl rfl (by omega)) rfl rfl ?_
    refine Dv rfl rfl rfl (U_load1 rfl rfl (getM0 hx2)) rfl rfl ?_
    refine Dv rfl rfl rfl (U_fieldAddrR rfl) rfl rfl ?_
    refine Dv rfl rfl rfl (U_load1 rfl rfl rfl) rfl rfl ?_
    refine Dv rfl rfl rfl (U_move rfl) rfl rfl ?_
    refine Dv rfl rfl rfl (U_indexR (j := k) rfl rfl rfl hx1) rfl rfl ?_
    refine Dv rfl rfl rfl (U_indexAR (j := 0) rfl rfl rfl (by decide)) rfl rfl ?_
    refine Dv rfl rfl rfl (U_load1 rfl rfl (lkH0 hx1)) rfl rfl ?_
    refine Dv rfl rfl rfl (U_shl rfl rfl (by omega) (shlN (n := 1) (i := ks[k].1) (shl63 (by omega)) (by omega))) rfl rfl ?_
    refine Dv rfl rfl rfl (U_or rfl rfl (orN (a := (bfL n (ks.take k))[ks[k].2]) (b := 1 <<< ks[k].1) (lt63 hbx) (lt63 (shl1024 (by omega))))) rfl rfl ?_
    refine Dv rfl rfl rfl (U_indexS (j := ks[k].2) rfl rfl rfl (by omega)) rfl rfl ?_
    refine Dn_ rfl rfl rfl (U_store (n := 1) (cs' := ((bfL n (ks.take k)).set ks[k].2 (((bfL n (ks.take k))[ks[k].2]) ||| (1 <<< ks[k].1))).map n64) rfl rfl rfl rfl rfl (stLt hx2) rfl setM) rfl rfl ?_
    refine Dr.nil rfl ?_
    refine blkQ_n ?_
    refine thenQ_n ?_
    refine W_reg rfl ?_
    refine Rv rfl rfl rfl (U_move rfl) rfl rfl ?_
    refine Rv rfl rfl rfl (U_add rfl rfl (w64e (m := ((k + 1 : Nat) : Int)) (by omega) (by omega) (by omega))) rfl rfl ?_
    refine Rv rfl rfl rfl (U_assign rfl) rfl rfl ?_
    refine Re rfl ?_
    refine thenQ_n ?_
    rw [← getD_eq (d := 0) hbi]
    rw [← bfL_S hck]
    exact againTo (T' := [(1, .rop [i64 ((n : Nat) : Int), .ros (ks.flatMap lkN) ks.length c] 0), (3, .slice 0 0 n n), (4, i64 (((k + 1) : Nat) : Int))]) (H' := [(0, some (.cells ((bfL n (ks.take (k + 1))).map n64) 3))]) (n := 1) (ks.length - (k + 1)) ⟨k + 1, (by omega), rfl, rfl⟩ (by omega) id ⟨eD rfl rfl, e_ rfl rfl, eD rfl rfl, trivial⟩ ⟨rD (mapD (fun _ => rfl) _) rfl rfl, trivial⟩ rfl rfl rfl rfl (fun _ _ => rfl)
  · obtain rfl : k = ks.length := by omega
    rw [List.take_length]
    refine W_exit rfl ?_
    refine thenQ_x ?_
    refine thenQ_x ?_
    refine blkQ_x rfl ?_
    refine thenQ_n ?_
    refine W_seq rfl ?_
    refine W_reg rfl ?_
    refine Rv rfl rfl rfl (U_move rfl) rfl rfl ?_
    refine Rv rfl rfl rfl (U_assign rfl) rfl rfl ?_
    refine Re rfl ?_
    refine thenQ_n ?_
    refine WfrN 0 rfl (mapD (fun _ => rfl) _) (T' := [(2, .ros ((bfL n ks).map n64) n (some n))]) (H' := []) ⟨⟨_, rfl, fr_sl (Nat.le_refl _)⟩, trivial⟩ trivial ?_
    refine WweakT (j := 2) rfl le_cap ?_
    refine W_ret rfl ?_
    exact retL (rlT rfl rl0) rfl rfl
end Go.Proofs.Ythmibifghihdaaa
end

section
namespace Go.Proofs.Ythmibifghihdaaa
set_option maxRecDepth 20000
open Go.AE
theorem ways_p (n : Nat) (ks : List (Nat × Nat)) (c : Option Nat) (hv : VB n ks) : Pure Try.prog 67 [bknA n ks c] (.tup [.ros ((upK n (nxQ n ks) (1 <<< n) 0).map n64) (1 <<< n) none, .ros ((enV n (nxQ n ks) 0).map n64) (1 <<< n) none]) := by
  have hv' := hv
  obtain ⟨hn1, hn, hkl, hk⟩ := hv'
  have h1024 := shl_le hn
  have h2n := shl_ge hn1
  have hx : Nxt (nxQ n ks) := nxR_nxt (bfN n ks)
  have hbl := bfL_len' hv
  have hmin : 1 <<< n - 1 = min (1 <<< n) (full n) := by rw [full_shl]; omega
  refine pure_of_body Try.func67 (c := body Try.f67) rfl (by simp [Try.ntmps67]) fun w0 Φ0 => ?_
  refine W_seq rfl ?_
  refine W_reg rfl ?_
  refine Rv rfl rfl rfl (U_boxF rfl rfl rfl) rfl rfl ?_
  refine Rv rfl rfl rfl (U_assign rfl) rfl rfl ?_
  refine Rv rfl rfl rfl (U_assign rfl) rfl rfl ?_
  refine Re rfl ?_
  refine thenQ_n ?_
  refine W_seq rfl ?_
  refine W_reg rfl ?_
  refine Rv rfl rfl rfl (U_load2 rfl rfl rfl rfl) rfl rfl ?_
  refine Rv rfl rfl rfl (U_call rfl rfl (before_p n ks c hv) rfl) rfl rfl ?_
  refine Rv rfl rfl rfl (U_assign rfl) rfl rfl ?_
  refine Re rfl ?_
  refine thenQ_n ?_
  refine W_seq rfl ?_
  refine W_reg rfl ?_
  refine Rv rfl rfl rfl (U_fieldAddrR rfl) rfl rfl ?_
  refine Rv rfl rfl rfl (U_load1 rfl rfl rfl) rfl rfl ?_
  refine Rv rfl rfl rfl (U_shl rfl rfl (by omega) (shlN (n := 1) (i := n) (shl63' hn) (by omega))) rfl rfl ?_
  refine Rv rfl rfl rfl (U_assign rfl) rfl rfl ?_
  refine Re rfl ?_
  refine thenQ_n ?_
  refine W_seq rfl ?_
  refine Wdraw rfl (by kernel_rfl) (by kernel_rfl) ?_
  refine Dv rfl rfl rfl (U_move rfl) rfl rfl ?_
  refine Da rfl rfl rfl (U_mkL (n := 1 <<< n) (cs' := (List.replicate (1 <<< n) (0 : Nat)).map n64) rfl rfl rfl (by omega) (replM rfl _)) rfl rfl rfl rfl ?_
  refine Dv rfl rfl rfl (U_move rfl) rfl rfl ?_
  refine Da rfl rfl rfl (U_mkL (n := 1 <<< n) (cs' := (List.replicate (1 <<< n) (0 : Nat)).map n64) rfl rfl rfl (by omega) (replM rfl _)) rfl rfl rfl rfl ?_
  refine Dv rfl rfl rfl (U_assign rfl) rfl rfl ?_
  refine Dv rfl rfl rfl (U_assign rfl) rfl rfl ?_
  refine Dr.nil rfl ?_
  refine thenQ_n ?_
  refine W_seq rfl ?_
  refine W_reg rfl ?_
  refine Rv rfl rfl rfl (U_move rfl) rfl rfl ?_
  refine Rv rfl rfl rfl (U_move rfl) rfl rfl ?_
  refine Rv rfl rfl rfl (U_move rfl) rfl rfl ?_
  refine Rv rfl rfl rfl (U_sub rfl rfl (w64e (m := ((1 <<< n - 1 : Nat) : Int)) (by omega) (by omega) (by omega))) rfl rfl ?_
  have hr0 : (List.replicate (1 <<< n) 0).length = 1 <<< n := List.length_replicate
  have hx1 : 0 < (List.replicate (1 <<< n) (0 : Nat)).length := by omega
  refine Rv rfl rfl rfl (U_indexS (j := 0) rfl rfl rfl (by omega)) rfl rfl ?_
  refine Rn rfl rfl rfl (U_store (n := 1) (cs' := ((List.replicate (1 <<< n) (0 : Nat)).set 0 1).map n64) rfl rfl rfl rfl rfl (stLt hx1) rfl setM) rfl ?_
  have hx2 : (1 <<< n - 1) < (List.replicate (1 <<< n) (0 : Nat)).length := by omega
  refine Rv rfl rfl rfl (U_indexS (j := (1 <<< n - 1)) rfl rfl rfl (by omega)) rfl rfl ?_
  refine Rn rfl rfl rfl (U_store (n := 1) (cs' := ((List.replicate (1 <<< n) (0 : Nat)).set (1 <<< n - 1) 1).map n64) rfl rfl rfl rfl rfl (stLt hx2) rfl setM) rfl ?_
  refine Re rfl ?_
  rw [upK_0 (n := n) (nx := (nxQ n ks)), enV_0 (n := n) (nx := (nxQ n ks)), hmin]
  refine thenQ_n ?_
  refine W_seq rfl ?_
  refine W_seq rfl ?_
  refine W_reg rfl ?_
  refine Rv rfl rfl rfl (U_assign rfl) rfl rfl ?_
  refine Re rfl ?_
  refine thenQ_n ?_
  refine W_block rfl ?_
  refine LoopTo (T' := [(1, .rop [i64 ((n : Nat) : Int), .ros (ks.flatMap lkN) ks.length c] 0), (4, .ros ((bfL n ks).map n64) n none), (5, i64 ((1 <<< n : Nat) : Int)), (6, .slice 0 0 (1 <<< n) (1 <<< n)), (7, .slice 1 0 (1 <<< n) (1 <<< n)), (8, i64 ((0 : Nat) : Int))]) (H' := [(0, some (.cells ((upK n (nxQ n ks) 0 0).map n64) 2)), (1, some (.cells ((enV n (nxQ n ks) (min (1 <<< n) (full n))).map n64) 2))]) (n := 2) rfl (fun mz_ qz_ => ∃ (s : Nat), s ≤ 1 <<< n ∧ mz_ = 1 <<< n - s ∧ qz_ = ⟨[(1, .rop [i64 ((n : Nat) : Int), .ros (ks.flatMap lkN) ks.length c] 0), (4, .ros ((bfL n ks).map n64) n none), (5, i64 ((1 <<< n : Nat) : Int)), (6, .slice 0 0 (1 <<< n) (1 <<< n)), (7, .slice 1 0 (1 <<< n) (1 <<< n)), (8, i64 ((s : Nat) : Int))], [(0, some (.cells ((upK n (nxQ n ks) s 0).map n64) 2)), (1, some (.cells ((enV n (nxQ n ks) (min (1 <<< n) (full n))).map n64) 2))], 2, []⟩) ⟨0, (Nat.zero_le _), rfl, rfl⟩ id ⟨eD rfl rfl, eD rfl rfl, eD rfl rfl, e_ rfl rfl, e_ rfl rfl, eD rfl rfl, trivial⟩ ⟨rD (mapD (fun _ => rfl) _) rfl rfl, rD (mapD (fun _ => rfl) _) rfl rfl, trivial⟩ rfl rfl rfl rfl (fun _ _ => rfl) ?_
  rintro _ _ ⟨s, hi0_0, rfl, rfl⟩
  refine W_seq rfl ?_
  refine W_seq rfl ?_
  refine W_reg rfl ?_
  refine Rv rfl rfl rfl (U_move rfl) rfl rfl ?_
  refine Rv rfl rfl rfl (U_move rfl) rfl rfl ?_
  refine Rv rfl rfl rfl (U_lss rfl rfl) rfl rfl ?_
  refine Re rfl ?_
  refine thenQ_n ?_
  refine WcondP rfl rfl (fun hc0 => ?_) (fun hc0 => ?_)
  · have hs : s < 2 ^ n := by rw [← one_shl (n := n)]; omega
    refine W_skip rfl ?_
    refine thenQ_n ?_
    refine W_seq rfl ?_
    refine W_block rfl ?_
    refine W_seq rfl ?_
    refine W_reg rfl ?_
    refine Rv rfl rfl rfl (U_assign rfl) rfl rfl ?_
    refine Re rfl ?_
    refine thenQ_n ?_
    refine W_block rfl ?_
    refine LoopTo (T' := [(1, .rop [i64 ((n : Nat) : Int), .ros (ks.flatMap lkN) ks.length c] 0), (4, .ros ((bfL n ks).map n64) n none), (5, i64 ((1 <<< n : Nat) : Int)), (6, .slice 0 0 (1 <<< n) (1 <<< n)), (7, .slice 1 0 (1 <<< n) (1 <<< n)), (8, i64 ((s : Nat) : Int)), (9, i64 ((0 : Nat) : Int))]) (H' := [(0, some (.cells ((upK n (nxQ n ks) s 0).map n64) 2)), (1, some (.cells ((enV n (nxQ n ks) (min (1 <<< n) (full n))).map n64) 2))]) (n := 2) rfl (fun mz_ qz_ => ∃ (k : Nat), k ≤ n ∧ mz_ = n - k ∧ qz_ = ⟨[(1, .rop [i64 ((n : Nat) : Int), .ros (ks.flatMap lkN) ks.length c] 0), (4, .ros ((bfL n ks).map n64) n none), (5, i64 ((1 <<< n : Nat) : Int)), (6, .slice 0 0 (1 <<< n) (1 <<< n)), (7, .slice 1 0 (1 <<< n) (1 <<< n)), (8, i64 ((s : Nat) : Int)), (9, i64 ((k : Nat) : Int))], [(0, some (.cells ((upK n (nxQ n ks) s k).map n64) 2)), (1, some (.cells ((enV n (nxQ n ks) (min (1 <<< n) (full n))).map n64) 2))], 2, []⟩) ⟨0, (by omega), rfl, rfl⟩ id ⟨eD rfl rfl, eD rfl rfl, eD rfl rfl, e_ rfl rfl, e_ rfl rfl, eD rfl rfl, eD rfl rfl, trivial⟩ ⟨rD (mapD (fun _ => rfl) _) rfl rfl, rD (mapD (fun _ => rfl) _) rfl rfl, trivial⟩ rfl rfl rfl rfl (fun _ _ => rfl) ?_
    rintro _ _ ⟨k, hi1_0, rfl, rfl⟩
    refine W_seq rfl ?_
    refine W_seq rfl ?_
    refine W_reg rfl ?_
    refine Rv rfl rfl rfl (U_move rfl) rfl rfl ?_
    refine Rv rfl rfl rfl (U_fieldAddrR rfl) rfl rfl ?_
    refine Rv rfl rfl rfl (U_load1 rfl rfl rfl) rfl rfl ?_
    refine Rv rfl rfl rfl (U_lss rfl rfl) rfl rfl ?_
    refine Re rfl ?_
    refine thenQ_n ?_
    refine WcondP rfl rfl (fun hc1 => ?_) (fun hc1 => ?_)
    · have hkn : k < n := by omega
      have hbi : k < (bfL n ks).length := by omega
      have hbk : bfN n ks k = (bfL n ks)[k] := getD_eq hbi
      have hbx : (bfL n ks)[k] < 1024 := bfL_lt' hv _ (List.getElem_mem _)
      have h10 : s < 1024 := by omega
      refine W_skip rfl ?_
      refine thenQ_n ?_
      refine W_seq rfl ?_
      refine W_block rfl ?_
      refine W_seq rfl ?_
      refine Wdraw rfl (by kernel_rfl) (by kernel_rfl) ?_
      refine Dv rfl rfl rfl (U_move rfl) rfl rfl ?_
      refine Dv rfl rfl rfl (U_move rfl) rfl rfl ?_
      refine Dv rfl rfl rfl (U_shr rfl rfl (by omega) (shrN (n := s) (i := k) (lt63 h10))) rfl rfl ?_
      refine Dv rfl rfl rfl (U_and rfl rfl (andN (a := s >>> k) (b := 1) (sh63 h10) (by omega))) rfl rfl ?_
      refine Dv rfl rfl rfl (U_eql rfl rfl) rfl rfl ?_
      refine Dv rfl rfl rfl (U_move rfl) rfl rfl ?_
      refine Dsplit (t := 43) rfl (fun hg3 => ?_) (fun hg3 => ?_)
      · rw [hg3]
        have hg3' : (((s >>> k) &&& 1 : Nat) : Int) = 0 := of_decide_eq_true hg3
        have hcg1 := hg3'
        refine Dv rfl rfl rfl (U_move rfl) rfl rfl ?_
        refine Dv rfl rfl rfl (U_move rfl) rfl rfl ?_
        have hx4 : k < (bfL n ks).length := by omega
        refine Dv rfl rfl rfl (U_indexR (j := k) rfl rfl rfl (by omega)) rfl rfl ?_
        refine Dv rfl rfl rfl (U_load1 rfl rfl (getM hx4)) rfl rfl ?_
        refine Dv rfl rfl rfl (U_move rfl) rfl rfl ?_
        refine Dv rfl rfl rfl (U_and rfl rfl (andN (a := (bfL n ks)[k]) (b := s) (lt63 hbx) (lt63 h10))) rfl rfl ?_
        refine Dv rfl rfl rfl (U_move rfl) rfl rfl ?_
        refine Dv rfl rfl rfl (U_move rfl) rfl rfl ?_
        refine Dv rfl rfl rfl (U_indexR (j := k) rfl rfl rfl (by omega)) rfl rfl ?_
        refine Dv rfl rfl rfl (U_load1 rfl rfl (getM hx4)) rfl rfl ?_
        refine Dv rfl rfl rfl (U_eql rfl rfl) rfl rfl ?_
        refine Dv rfl rfl rfl (U_pick_t rfl rfl) rfl rfl ?_
        refine Dr.nil rfl ?_
        refine thenQ_n ?_
        refine WcondP rfl rfl (fun hc2 => ?_) (fun hc2 => ?_)
        · have hnx : nxQ n ks s k = true := by show nxR (bfN n ks) s k = true; unfold nxR; rw [hbk, decide_eq_true hcg1, decide_eq_true hc2]; rfl
          have had : s ||| 1 <<< k < 2 ^ n := ad_lt hs hkn
          have hadl : s ||| 1 <<< k < (upK n (nxQ n ks) s k).length := by rw [upK_len, one_shl (n := n)]; exact had
          have hsl : s < (upK n (nxQ n ks) s k).length := by rw [upK_len, one_shl (n := n)]; exact hs
          have hb1 := upK_le hn hx (show k ≤ n by omega) had hadl
          have hvs : (upK n (nxQ n ks) s k)[s] = up n (nxQ n ks) s := upK_self hx hs hsl
          have hb2 : up n (nxQ n ks) s ≤ 3628800 := up_lt hn hs
          refine Wdraw rfl (by kernel_rfl) (by kernel_rfl) ?_
          refine Dv rfl rfl rfl (U_move rfl) rfl rfl ?_
          refine Dv rfl rfl rfl (U_move rfl) rfl rfl ?_
          refine Dv rfl rfl rfl (U_move rfl) rfl rfl ?_
          refine Dv rfl rfl rfl (U_shl rfl rfl (by omega) (shlN (n := 1) (i := k) (shl63 (by omega)) (by omega))) rfl rfl ?_
          refine Dv rfl rfl rfl (U_or rfl rfl (orN (a := s) (b := 1 <<< k) (lt63 h10) (lt63 (shl1024 (by omega))))) rfl rfl ?_
          have hx5 : (s ||| (1 <<< k)) < (upK n (nxQ n ks) s k).length := by omega
          refine Dv rfl rfl rfl (U_indexS (j := (s ||| (1 <<< k))) rfl rfl rfl (by omega)) rfl rfl ?_
          refine Dv rfl rfl rfl (U_load1 rfl rfl (getM0 hx5)) rfl rfl ?_
          refine Dv rfl rfl rfl (U_move rfl) rfl rfl ?_
          refine Dv rfl rfl rfl (U_move rfl) rfl rfl ?_
          have hx6 : s < (upK n (nxQ n ks) s k).length := by omega
          refine Dv rfl rfl rfl (U_indexS (j := s) rfl rfl rfl (by omega)) rfl rfl ?_
          refine Dv rfl rfl rfl (U_load1 rfl rfl (getM0 hx6)) rfl rfl ?_
          refine Dv rfl rfl rfl (U_add rfl rfl (w64e (m := ((((upK n (nxQ n ks) s k)[(s ||| (1 <<< k))]) + (upK n (nxQ n ks) s k)[s] : Nat) : Int)) (by omega) (by omega) (by omega))) rfl rfl ?_
          refine Dv rfl rfl rfl (U_indexS (j := (s ||| (1 <<< k))) rfl rfl rfl (by omega)) rfl rfl ?_
          refine Dn_ rfl rfl rfl (U_store (n := 1) (cs' := ((upK n (nxQ n ks) s k).set (s ||| (1 <<< k)) (((upK n (nxQ n ks) s k)[(s ||| (1 <<< k))]) + (upK n (nxQ n ks) s k)[s])).map n64) rfl rfl rfl rfl rfl (stLt hx5) rfl setM) rfl rfl ?_
          refine Dr.nil rfl ?_
          refine blkQ_n ?_
          refine thenQ_n ?_
          refine W_reg rfl ?_
          refine Rv rfl rfl rfl (U_move rfl) rfl rfl ?_
          refine Rv rfl rfl rfl (U_add rfl rfl (w64e (m := ((k + 1 : Nat) : Int)) (by omega) (by omega) (by omega))) rfl rfl ?_
          refine Rv rfl rfl rfl (U_assign rfl) rfl rfl ?_
          refine Re rfl ?_
          refine thenQ_n ?_
          first | rw [upK_T hx hs hnx hadl rfl hvs] | rw [upK_F hnx]
          exact againTo (T' := [(1, .rop [i64 ((n : Nat) : Int), .ros (ks.flatMap lkN) ks.length c] 0), (4, .ros ((bfL n ks).map n64) n none), (5, i64 ((1 <<< n : Nat) : Int)), (6, .slice 0 0 (1 <<< n) (1 <<< n)), (7, .slice 1 0 (1 <<< n) (1 <<< n)), (8, i64 ((s : Nat) : Int)), (9, i64 (((k + 1) : Nat) : Int))]) (H' := [(0, some (.cells ((upK n (nxQ n ks) s (k + 1)).map n64) 2)), (1, some (.cells ((enV n (nxQ n ks) (min (1 <<< n) (full n))).map n64) 2))]) (n := 2) (n - (k + 1)) ⟨k + 1, (by omega), rfl, rfl⟩ (by omega) id ⟨eD rfl rfl, eD rfl rfl, eD rfl rfl, e_ rfl rfl, e_ rfl rfl, eD rfl rfl, eD rfl rfl, trivial⟩ ⟨rD (mapD (fun _ => rfl) _) rfl rfl, rD (mapD (fun _ => rfl) _) rfl rfl, trivial⟩ rfl rfl rfl rfl (fun _ _ => rfl)
        · have hnx : nxQ n ks s k = false := by show nxR (bfN n ks) s k = false; unfold nxR; rw [hbk, decide_eq_true hcg1, decide_eq_false hc2]; rfl
          refine W_skip rfl ?_
          refine blkQ_n ?_
          refine thenQ_n ?_
          refine W_reg rfl ?_
          refine Rv rfl rfl rfl (U_move rfl) rfl rfl ?_
          refine Rv rfl rfl rfl (U_add rfl rfl (w64e (m := ((k + 1 : Nat) : Int)) (by omega) (by omega) (by omega))) rfl rfl ?_
          refine Rv rfl rfl rfl (U_assign rfl) rfl rfl ?_
          refine Re rfl ?_
          refine thenQ_n ?_
          first | rw [upK_T hx hs hnx hadl rfl hvs] | rw [upK_F hnx]
          exact againTo (T' := [(1, .rop [i64 ((n : Nat) : Int), .ros (ks.flatMap lkN) ks.length c] 0), (4, .ros ((bfL n ks).map n64) n none), (5, i64 ((1 <<< n : Nat) : Int)), (6, .slice 0 0 (1 <<< n) (1 <<< n)), (7, .slice 1 0 (1 <<< n) (1 <<< n)), (8, i64 ((s : Nat) : Int)), (9, i64 (((k + 1) : Nat) : Int))]) (H' := [(0, some (.cells ((upK n (nxQ n ks) s (k + 1)).map n64) 2)), (1, some (.cells ((enV n (nxQ n ks) (min (1 <<< n) (full n))).map n64) 2))]) (n := 2) (n - (k + 1)) ⟨k + 1, (by omega), rfl, rfl⟩ (by omega) id ⟨eD rfl rfl, eD rfl rfl, eD rfl rfl, e_ rfl rfl, e_ rfl rfl, eD rfl rfl, eD rfl rfl, trivial⟩ ⟨rD (mapD (fun _ => rfl) _) rfl rfl, rD (mapD (fun _ => rfl) _) rfl rfl, trivial⟩ rfl rfl rfl rfl (fun _ _ => rfl)
      · rw [hg3]
        have hg3' : ¬ ((((s >>> k) &&& 1 : Nat) : Int) = 0) := of_decide_eq_false hg3
        have hnx : nxQ n ks s k = false := by show nxR (bfN n ks) s k = false; unfold nxR; rw [decide_eq_false hg3']; rfl
        refine Ds rfl rfl rfl rfl rfl ?_
        refine Ds rfl rfl rfl rfl rfl ?_
        refine Ds rfl rfl rfl rfl rfl ?_
        refine Ds rfl rfl rfl rfl rfl ?_
        refine Ds rfl rfl rfl rfl rfl ?_
        refine Ds rfl rfl rfl rfl rfl ?_
        refine Ds rfl rfl rfl rfl rfl ?_
        refine Ds rfl rfl rfl rfl rfl ?_
        refine Ds rfl rfl rfl rfl rfl ?_
        refine Ds rfl rfl rfl rfl rfl ?_
        refine Ds rfl rfl rfl rfl rfl ?_
        refine Dv rfl rfl rfl (U_pick_f rfl rfl) rfl rfl ?_
        refine Dr.nil rfl ?_
        refine thenQ_n ?_
        refine Wcond rfl rfl (fun h => nomatch h) (fun _ => ?_)
        refine W_skip rfl ?_
        refine blkQ_n ?_
        refine thenQ_n ?_
        refine W_reg rfl ?_
        refine Rv rfl rfl rfl (U_move rfl) rfl rfl ?_
        refine Rv rfl rfl rfl (U_add rfl rfl (w64e (m := ((k + 1 : Nat) : Int)) (by omega) (by omega) (by omega))) rfl rfl ?_
        refine Rv rfl rfl rfl (U_assign rfl) rfl rfl ?_
        refine Re rfl ?_
        refine thenQ_n ?_
        first | rw [upK_T hx hs hnx hadl rfl hvs] | rw [upK_F hnx]
        exact againTo (T' := [(1, .rop [i64 ((n : Nat) : Int), .ros (ks.flatMap lkN) ks.length c] 0), (4, .ros ((bfL n ks).map n64) n none), (5, i64 ((1 <<< n : Nat) : Int)), (6, .slice 0 0 (1 <<< n) (1 <<< n)), (7, .slice 1 0 (1 <<< n) (1 <<< n)), (8, i64 ((s : Nat) : Int)), (9, i64 (((k + 1) : Nat) : Int))]) (H' := [(0, some (.cells ((upK n (nxQ n ks) s (k + 1)).map n64) 2)), (1, some (.cells ((enV n (nxQ n ks) (min (1 <<< n) (full n))).map n64) 2))]) (n := 2) (n - (k + 1)) ⟨k + 1, (by omega), rfl, rfl⟩ (by omega) id ⟨eD rfl rfl, eD rfl rfl, eD rfl rfl, e_ rfl rfl, e_ rfl rfl, eD rfl rfl, eD rfl rfl, trivial⟩ ⟨rD (mapD (fun _ => rfl) _) rfl rfl, rD (mapD (fun _ => rfl) _) rfl rfl, trivial⟩ rfl rfl rfl rfl (fun _ _ => rfl)
    · obtain rfl : n = k := by omega
      rw [upK_all hx]
      refine W_exit rfl ?_
      refine thenQ_x ?_
      refine thenQ_x ?_
      refine blkQ_x rfl ?_
      refine blkQ_n ?_
      refine thenQ_n ?_
      refine W_reg rfl ?_
      refine Rv rfl rfl rfl (U_move rfl) rfl rfl ?_
      refine Rv rfl rfl rfl (U_add rfl rfl (w64e (m := ((s + 1 : Nat) : Int)) (by omega) (by omega) (by omega))) rfl rfl ?_
      refine Rv rfl rfl rfl (U_assign rfl) rfl rfl ?_
      refine Re rfl ?_
      refine thenQ_n ?_
      exact againTo (T' := [(1, .rop [i64 ((n : Nat) : Int), .ros (ks.flatMap lkN) ks.length c] 0), (4, .ros ((bfL n ks).map n64) n none), (5, i64 ((1 <<< n : Nat) : Int)), (6, .slice 0 0 (1 <<< n) (1 <<< n)), (7, .slice 1 0 (1 <<< n) (1 <<< n)), (8, i64 (((s + 1) : Nat) : Int))]) (H' := [(0, some (.cells ((upK n (nxQ n ks) (s + 1) 0).map n64) 2)), (1, some (.cells ((enV n (nxQ n ks) (min (1 <<< n) (full n))).map n64) 2))]) (n := 2) (1 <<< n - (s + 1)) ⟨s + 1, (by omega), rfl, rfl⟩ (by omega) id ⟨eD rfl rfl, eD rfl rfl, eD rfl rfl, e_ rfl rfl, e_ rfl rfl, eD rfl rfl, trivial⟩ ⟨rD (mapD (fun _ => rfl) _) rfl rfl, rD (mapD (fun _ => rfl) _) rfl rfl, trivial⟩ rfl rfl rfl rfl (fun _ _ => rfl)
  · obtain rfl : s = 1 <<< n := by omega
    refine W_exit rfl ?_
    refine thenQ_x ?_
    refine thenQ_x ?_
    refine blkQ_x rfl ?_
    refine thenQ_n ?_
    refine W_seq rfl ?_
    refine W_seq rfl ?_
    refine W_reg rfl ?_
    refine Rv rfl rfl rfl (U_move rfl) rfl rfl ?_
    refine Rv rfl rfl rfl (U_sub rfl rfl (w64 (by omega) (by omega))) rfl rfl ?_
    refine Rv rfl rfl rfl (U_assign rfl) rfl rfl ?_
    refine Re rfl ?_
    refine thenQ_n ?_
    refine W_block rfl ?_
    refine LoopTo (T' := [(1, .rop [i64 ((n : Nat) : Int), .ros (ks.flatMap lkN) ks.length c] 0), (4, .ros ((bfL n ks).map n64) n none), (6, .slice 0 0 (1 <<< n) (1 <<< n)), (7, .slice 1 0 (1 <<< n) (1 <<< n)), (10, i64 ((((1 <<< n) : Nat) : Int) - 1))]) (H' := [(0, some (.cells ((upK n (nxQ n ks) (1 <<< n) 0).map n64) 2)), (1, some (.cells ((enV n (nxQ n ks) (min (1 <<< n) (full n))).map n64) 2))]) (n := 2) rfl (fun mz_ qz_ => ∃ (s : Nat), s ≤ 1 <<< n ∧ mz_ = 0 + s ∧ qz_ = ⟨[(1, .rop [i64 ((n : Nat) : Int), .ros (ks.flatMap lkN) ks.length c] 0), (4, .ros ((bfL n ks).map n64) n none), (6, .slice 0 0 (1 <<< n) (1 <<< n)), (7, .slice 1 0 (1 <<< n) (1 <<< n)), (10, i64 (((s : Nat) : Int) - 1))], [(0, some (.cells ((upK n (nxQ n ks) (1 <<< n) 0).map n64) 2)), (1, some (.cells ((enV n (nxQ n ks) (min s (full n))).map n64) 2))], 2, []⟩) ⟨1 <<< n, (Nat.le_refl _), rfl, rfl⟩ id ⟨eD rfl rfl, eD rfl rfl, e_ rfl rfl, e_ rfl rfl, eD rfl rfl, trivial⟩ ⟨rD (mapD (fun _ => rfl) _) rfl rfl, rD (mapD (fun _ => rfl) _) rfl rfl, trivial⟩ rfl rfl rfl rfl (fun _ _ => rfl) ?_
    rintro _ _ ⟨s, hi2_0, rfl, rfl⟩
    refine W_seq rfl ?_
    refine W_seq rfl ?_
    refine W_reg rfl ?_
    refine Rv rfl rfl rfl (U_move rfl) rfl rfl ?_
    refine Rv rfl rfl rfl (U_geq rfl rfl) rfl rfl ?_
    refine Re rfl ?_
    refine thenQ_n ?_
    refine WcondP rfl rfl (fun hc3 => ?_) (fun hc3 => ?_)
    · obtain ⟨m, rfl⟩ : ∃ m, s = m + 1 := ⟨s - 1, by omega⟩
      have hm1 : ((m + 1 : Nat) : Int) - 1 = ((m : Nat) : Int) := by omega
      rw [hm1]
      have hm : m < 2 ^ n := by rw [← one_shl (n := n)]; omega
      rw [← enK_0 (n := n) (nx := (nxQ n ks)) hm]
      refine W_skip rfl ?_
      refine thenQ_n ?_
      refine W_seq rfl ?_
      refine W_block rfl ?_
      refine W_seq rfl ?_
      refine W_reg rfl ?_
      refine Rv rfl rfl rfl (U_assign rfl) rfl rfl ?_
      refine Re rfl ?_
      refine thenQ_n ?_
      refine W_block rfl ?_
      refine LoopTo (T' := [(1, .rop [i64 ((n : Nat) : Int), .ros (ks.flatMap lkN) ks.length c] 0), (4, .ros ((bfL n ks).map n64) n none), (6, .slice 0 0 (1 <<< n) (1 <<< n)), (7, .slice 1 0 (1 <<< n) (1 <<< n)), (10, i64 ((m : Nat) : Int)), (11, i64 ((0 : Nat) : Int))]) (H' := [(0, some (.cells ((upK n (nxQ n ks) (1 <<< n) 0).map n64) 2)), (1, some (.cells ((enK n (nxQ n ks) m 0).map n64) 2))]) (n := 2) rfl (fun mz_ qz_ => ∃ (k : Nat), k ≤ n ∧ mz_ = n - k ∧ qz_ = ⟨[(1, .rop [i64 ((n : Nat) : Int), .ros (ks.flatMap lkN) ks.length c] 0), (4, .ros ((bfL n ks).map n64) n none), (6, .slice 0 0 (1 <<< n) (1 <<< n)), (7, .slice 1 0 (1 <<< n) (1 <<< n)), (10, i64 ((m : Nat) : Int)), (11, i64 ((k : Nat) : Int))], [(0, some (.cells ((upK n (nxQ n ks) (1 <<< n) 0).map n64) 2)), (1, some (.cells ((enK n (nxQ n ks) m k).map n64) 2))], 2, []⟩) ⟨0, (by omega), rfl, rfl⟩ id ⟨eD rfl rfl, eD rfl rfl, e_ rfl rfl, e_ rfl rfl, eD rfl rfl, eD rfl rfl, trivial⟩ ⟨rD (mapD (fun _ => rfl) _) rfl rfl, rD (mapD (fun _ => rfl) _) rfl rfl, trivial⟩ rfl rfl rfl rfl (fun _ _ => rfl) ?_
      rintro _ _ ⟨k, hi3_0, rfl, rfl⟩
      refine W_seq rfl ?_
      refine W_seq rfl ?_
      refine W_reg rfl ?_
      refine Rv rfl rfl rfl (U_move rfl) rfl rfl ?_
      refine Rv rfl rfl rfl (U_fieldAddrR rfl) rfl rfl ?_
      refine Rv rfl rfl rfl (U_load1 rfl rfl rfl) rfl rfl ?_
      refine Rv rfl rfl rfl (U_lss rfl rfl) rfl rfl ?_
      refine Re rfl ?_
      refine thenQ_n ?_
      refine WcondP rfl rfl (fun hc4 => ?_) (fun hc4 => ?_)
      · have hkn : k < n := by omega
        have hbi : k < (bfL n ks).length := by omega
        have hbk : bfN n ks k = (bfL n ks)[k] := getD_eq hbi
        have hbx : (bfL n ks)[k] < 1024 := bfL_lt' hv _ (List.getElem_mem _)
        have h10 : m < 1024 := by omega
        refine W_skip rfl ?_
        refine thenQ_n ?_
        refine W_seq rfl ?_
        refine W_block rfl ?_
        refine W_seq rfl ?_
        refine Wdraw rfl (by kernel_rfl) (by kernel_rfl) ?_
        refine Dv rfl rfl rfl (U_move rfl) rfl rfl ?_
        refine Dv rfl rfl rfl (U_move rfl) rfl rfl ?_
        refine Dv rfl rfl rfl (U_shr rfl rfl (by omega) (shrN (n := m) (i := k) (lt63 h10))) rfl rfl ?_
        refine Dv rfl rfl rfl (U_and rfl rfl (andN (a := m >>> k) (b := 1) (sh63 h10) (by omega))) rfl rfl ?_
        refine Dv rfl rfl rfl (U_eql rfl rfl) rfl rfl ?_
        refine Dv rfl rfl rfl (U_move rfl) rfl rfl ?_
        refine Dsplit (t := 86) rfl (fun hg7 => ?_) (fun hg7 => ?_)
        · rw [hg7]
          have hg7' : (((m >>> k) &&& 1 : Nat) : Int) = 0 := of_decide_eq_true hg7
          have hcg1 := hg7'
          refine Dv rfl rfl rfl (U_move rfl) rfl rfl ?_
          refine Dv rfl rfl rfl (U_move rfl) rfl rfl ?_
          have hx8 : k < (bfL n ks).length := by omega
          refine Dv rfl rfl rfl (U_indexR (j := k) rfl rfl rfl (by omega)) rfl rfl ?_
          refine Dv rfl rfl rfl (U_load1 rfl rfl (getM hx8)) rfl rfl ?_
          refine Dv rfl rfl rfl (U_move rfl) rfl rfl ?_
          refine Dv rfl rfl rfl (U_and rfl rfl (andN (a := (bfL n ks)[k]) (b := m) (lt63 hbx) (lt63 h10))) rfl rfl ?_
          refine Dv rfl rfl rfl (U_move rfl) rfl rfl ?_
          refine Dv rfl rfl rfl (U_move rfl) rfl rfl ?_
          refine Dv rfl rfl rfl (U_indexR (j := k) rfl rfl rfl (by omega)) rfl rfl ?_
          refine Dv rfl rfl rfl (U_load1 rfl rfl (getM hx8)) rfl rfl ?_
          refine Dv rfl rfl rfl (U_eql rfl rfl) rfl rfl ?_
          refine Dv rfl rfl rfl (U_pick_t rfl rfl) rfl rfl ?_
          refine Dr.nil rfl ?_
          refine thenQ_n ?_
          refine WcondP rfl rfl (fun hc5 => ?_) (fun hc5 => ?_)
          · have hnx : nxQ n ks m k = true := by show nxR (bfN n ks) m k = true; unfold nxR; rw [hbk, decide_eq_true hcg1, decide_eq_true hc5]; rfl
            have had : m ||| 1 <<< k < 2 ^ n := ad_lt hm hkn
            have hgt : m < m ||| 1 <<< k := ad_gt (hx _ _ hnx)
            have hne : m ≠ full n := by { rintro rfl; rw [nx_full hx hkn] at hnx; cases hnx }
            have hadl : m ||| 1 <<< k < (enK n (nxQ n ks) m k).length := by rw [enK_len, one_shl (n := n)]; exact had
            have hml : m < (enK n (nxQ n ks) m k).length := by rw [enK_len, one_shl (n := n)]; exact hm
            have hu : (enK n (nxQ n ks) m k)[m] = enR n (nxQ n ks) m k := enK_at1 hml
            have hv_ : (enK n (nxQ n ks) m k)[m ||| 1 <<< k] = en n (nxQ n ks) (ad m k) := enK_at2 hgt hadl
            have hb1 := enR_le hn hx hm (show k ≤ n by omega)
            have hb2 : en n (nxQ n ks) (ad m k) ≤ 3628800 := en_lt hx hn had
            refine Wdraw rfl (by kernel_rfl) (by kernel_rfl) ?_
            refine Dv rfl rfl rfl (U_move rfl) rfl rfl ?_
            refine Dv rfl rfl rfl (U_move rfl) rfl rfl ?_
            have hx9 : m < (enK n (nxQ n ks) m k).length := by omega
            refine Dv rfl rfl rfl (U_indexS (j := m) rfl rfl rfl (by omega)) rfl rfl ?_
            refine Dv rfl rfl rfl (U_load1 rfl rfl (getM0 hx9)) rfl rfl ?_
            refine Dv rfl rfl rfl (U_move rfl) rfl rfl ?_
            refine Dv rfl rfl rfl (U_move rfl) rfl rfl ?_
            refine Dv rfl rfl rfl (U_move rfl) rfl rfl ?_
            refine Dv rfl rfl rfl (U_shl rfl rfl (by omega) (shlN (n := 1) (i := k) (shl63 (by omega)) (by omega))) rfl rfl ?_
            refine Dv rfl rfl rfl (U_or rfl rfl (orN (a := m) (b := 1 <<< k) (lt63 h10) (lt63 (shl1024 (by omega))))) rfl rfl ?_
            have hx10 : (m ||| (1 <<< k)) < (enK n (nxQ n ks) m k).length := by omega
            refine Dv rfl rfl rfl (U_indexS (j := (m ||| (1 <<< k))) rfl rfl rfl (by omega)) rfl rfl ?_
            refine Dv rfl rfl rfl (U_load1 rfl rfl (getM0 hx10)) rfl rfl ?_
            refine Dv rfl rfl rfl (U_add rfl rfl (w64e (m := (((enK n (nxQ n ks) m k)[m] + ((enK n (nxQ n ks) m k)[(m ||| (1 <<< k))]) : Nat) : Int)) (by omega) (by omega) (by omega))) rfl rfl ?_
            refine Dv rfl rfl rfl (U_indexS (j := m) rfl rfl rfl (by omega)) rfl rfl ?_
            refine Dn_ rfl rfl rfl (U_store (n := 1) (cs' := ((enK n (nxQ n ks) m k).set m ((enK n (nxQ n ks) m k)[m] + ((enK n (nxQ n ks) m k)[(m ||| (1 <<< k))]))).map n64) rfl rfl rfl rfl rfl (stLt hx9) rfl setM) rfl rfl ?_
            refine Dr.nil rfl ?_
            refine blkQ_n ?_
            refine thenQ_n ?_
            refine W_reg rfl ?_
            refine Rv rfl rfl rfl (U_move rfl) rfl rfl ?_
            refine Rv rfl rfl rfl (U_add rfl rfl (w64e (m := ((k + 1 : Nat) : Int)) (by omega) (by omega) (by omega))) rfl rfl ?_
            refine Rv rfl rfl rfl (U_assign rfl) rfl rfl ?_
            refine Re rfl ?_
            refine thenQ_n ?_
            first | rw [enK_T hne hnx hu hv_] | rw [enK_F hnx]
            exact againTo (T' := [(1, .rop [i64 ((n : Nat) : Int), .ros (ks.flatMap lkN) ks.length c] 0), (4, .ros ((bfL n ks).map n64) n none), (6, .slice 0 0 (1 <<< n) (1 <<< n)), (7, .slice 1 0 (1 <<< n) (1 <<< n)), (10, i64 ((m : Nat) : Int)), (11, i64 (((k + 1) : Nat) : Int))]) (H' := [(0, some (.cells ((upK n (nxQ n ks) (1 <<< n) 0).map n64) 2)), (1, some (.cells ((enK n (nxQ n ks) m (k + 1)).map n64) 2))]) (n := 2) (n - (k + 1)) ⟨k + 1, (by omega), rfl, rfl⟩ (by omega) id ⟨eD rfl rfl, eD rfl rfl, e_ rfl rfl, e_ rfl rfl, eD rfl rfl, eD rfl rfl, trivial⟩ ⟨rD (mapD (fun _ => rfl) _) rfl rfl, rD (mapD (fun _ => rfl) _) rfl rfl, trivial⟩ rfl rfl rfl rfl (fun _ _ => rfl)
          · have hnx : nxQ n ks m k = false := by show nxR (bfN n ks) m k = false; unfold nxR; rw [hbk, decide_eq_true hcg1, decide_eq_false hc5]; rfl
            refine W_skip rfl ?_
            refine blkQ_n ?_
            refine thenQ_n ?_
            refine W_reg rfl ?_
            refine Rv rfl rfl rfl (U_move rfl) rfl rfl ?_
            refine Rv rfl rfl rfl (U_add rfl rfl (w64e (m := ((k + 1 : Nat) : Int)) (by omega) (by omega) (by omega))) rfl rfl ?_
            refine Rv rfl rfl rfl (U_assign rfl) rfl rfl ?_
            refine Re rfl ?_
            refine thenQ_n ?_
            first | rw [enK_T hne hnx hu hv_] | rw [enK_F hnx]
            exact againTo (T' := [(1, .rop [i64 ((n : Nat) : Int), .ros (ks.flatMap lkN) ks.length c] 0), (4, .ros ((bfL n ks).map n64) n none), (6, .slice 0 0 (1 <<< n) (1 <<< n)), (7, .slice 1 0 (1 <<< n) (1 <<< n)), (10, i64 ((m : Nat) : Int)), (11, i64 (((k + 1) : Nat) : Int))]) (H' := [(0, some (.cells ((upK n (nxQ n ks) (1 <<< n) 0).map n64) 2)), (1, some (.cells ((enK n (nxQ n ks) m (k + 1)).map n64) 2))]) (n := 2) (n - (k + 1)) ⟨k + 1, (by omega), rfl, rfl⟩ (by omega) id ⟨eD rfl rfl, eD rfl rfl, e_ rfl rfl, e_ rfl rfl, eD rfl rfl, eD rfl rfl, trivial⟩ ⟨rD (mapD (fun _ => rfl) _) rfl rfl, rD (mapD (fun _ => rfl) _) rfl rfl, trivial⟩ rfl rfl rfl rfl (fun _ _ => rfl)
        · rw [hg7]
          have hg7' : ¬ ((((m >>> k) &&& 1 : Nat) : Int) = 0) := of_decide_eq_false hg7
          have hnx : nxQ n ks m k = false := by show nxR (bfN n ks) m k = false; unfold nxR; rw [decide_eq_false hg7']; rfl
          refine Ds rfl rfl rfl rfl rfl ?_
          refine Ds rfl rfl rfl rfl rfl ?_
          refine Ds rfl rfl rfl rfl rfl ?_
          refine Ds rfl rfl rfl rfl rfl ?_
          refine Ds rfl rfl rfl rfl rfl ?_
          refine Ds rfl rfl rfl rfl rfl ?_
          refine Ds rfl rfl rfl rfl rfl ?_
          refine Ds rfl rfl rfl rfl rfl ?_
          refine Ds rfl rfl rfl rfl rfl ?_
          refine Ds rfl rfl rfl rfl rfl ?_
          refine Ds rfl rfl rfl rfl rfl ?_
          refine Dv rfl rfl rfl (U_pick_f rfl rfl) rfl rfl ?_
          refine Dr.nil rfl ?_
          refine thenQ_n ?_
          refine Wcond rfl rfl (fun h => nomatch h) (fun _ => ?_)
          refine W_skip rfl ?_
          refine blkQ_n ?_
          refine thenQ_n ?_
          refine W_reg rfl ?_
          refine Rv rfl rfl rfl (U_move rfl) rfl rfl ?_
          refine Rv rfl rfl rfl (U_add rfl rfl (w64e (m := ((k + 1 : Nat) : Int)) (by omega) (by omega) (by omega))) rfl rfl ?_
          refine Rv rfl rfl rfl (U_assign rfl) rfl rfl ?_
          refine Re rfl ?_
          refine thenQ_n ?_
          first | rw [enK_T hne hnx hu hv_] | rw [enK_F hnx]
          exact againTo (T' := [(1, .rop [i64 ((n : Nat) : Int), .ros (ks.flatMap lkN) ks.length c] 0), (4, .ros ((bfL n ks).map n64) n none), (6, .slice 0 0 (1 <<< n) (1 <<< n)), (7, .slice 1 0 (1 <<< n) (1 <<< n)), (10, i64 ((m : Nat) : Int)), (11, i64 (((k + 1) : Nat) : Int))]) (H' := [(0, some (.cells ((upK n (nxQ n ks) (1 <<< n) 0).map n64) 2)), (1, some (.cells ((enK n (nxQ n ks) m (k + 1)).map n64) 2))]) (n := 2) (n - (k + 1)) ⟨k + 1, (by omega), rfl, rfl⟩ (by omega) id ⟨eD rfl rfl, eD rfl rfl, e_ rfl rfl, e_ rfl rfl, eD rfl rfl, eD rfl rfl, trivial⟩ ⟨rD (mapD (fun _ => rfl) _) rfl rfl, rD (mapD (fun _ => rfl) _) rfl rfl, trivial⟩ rfl rfl rfl rfl (fun _ _ => rfl)
      · obtain rfl : n = k := by omega
        rw [enK_all hx hm]
        refine W_exit rfl ?_
        refine thenQ_x ?_
        refine thenQ_x ?_
        refine blkQ_x rfl ?_
        refine blkQ_n ?_
        refine thenQ_n ?_
        refine W_reg rfl ?_
        refine Rv rfl rfl rfl (U_move rfl) rfl rfl ?_
        refine Rv rfl rfl rfl (U_sub rfl rfl (w64 (by omega) (by omega))) rfl rfl ?_
        refine Rv rfl rfl rfl (U_assign rfl) rfl rfl ?_
        refine Re rfl ?_
        refine thenQ_n ?_
        exact againTo (T' := [(1, .rop [i64 ((n : Nat) : Int), .ros (ks.flatMap lkN) ks.length c] 0), (4, .ros ((bfL n ks).map n64) n none), (6, .slice 0 0 (1 <<< n) (1 <<< n)), (7, .slice 1 0 (1 <<< n) (1 <<< n)), (10, i64 (((m : Nat) : Int) - 1))]) (H' := [(0, some (.cells ((upK n (nxQ n ks) (1 <<< n) 0).map n64) 2)), (1, some (.cells ((enV n (nxQ n ks) (min m (full n))).map n64) 2))]) (n := 2) (0 + m) ⟨m, (by omega), rfl, rfl⟩ (by omega) id ⟨eD rfl rfl, eD rfl rfl, e_ rfl rfl, e_ rfl rfl, eD rfl rfl, trivial⟩ ⟨rD (mapD (fun _ => rfl) _) rfl rfl, rD (mapD (fun _ => rfl) _) rfl rfl, trivial⟩ rfl rfl rfl rfl (fun _ _ => rfl)
    · obtain rfl : s = 0 := by omega
      rw [Nat.zero_min]
      refine W_exit rfl ?_
      refine thenQ_x ?_
      refine thenQ_x ?_
      refine blkQ_x rfl ?_
      refine thenQ_n ?_
      refine W_seq rfl ?_
      refine W_reg rfl ?_
      refine Rv rfl rfl rfl (U_move rfl) rfl rfl ?_
      refine Rv rfl rfl rfl (U_move rfl) rfl rfl ?_
      refine Rv rfl rfl rfl (U_assign rfl) rfl rfl ?_
      refine Rv rfl rfl rfl (U_assign rfl) rfl rfl ?_
      refine Re rfl ?_
      refine thenQ_n ?_
      refine WfrN 0 rfl (mapD (fun _ => rfl) _) (T' := [(2, .ros ((upK n (nxQ n ks) (1 <<< n) 0).map n64) (1 <<< n) (some (1 <<< n))), (3, .slice 1 0 (1 <<< n) (1 <<< n))]) (H' := [(1, some (.cells ((enV n (nxQ n ks) 0).map n64) 2))]) ⟨⟨_, rfl, fr_sl (Nat.le_refl _)⟩, ⟨_, rfl, rfl⟩, trivial⟩ ⟨⟨rfl, rFD (mapD (fun _ => rfl) _) rfl⟩, trivial⟩ ?_
      refine WfrN 1 rfl (mapD (fun _ => rfl) _) (T' := [(2, .ros ((upK n (nxQ n ks) (1 <<< n) 0).map n64) (1 <<< n) (some (1 <<< n))), (3, .ros ((enV n (nxQ n ks) 0).map n64) (1 <<< n) (some (1 <<< n)))]) (H' := []) ⟨⟨_, rfl, rfl⟩, ⟨_, rfl, fr_sl (Nat.le_refl _)⟩, trivial⟩ trivial ?_
      refine WweakT (j := 2) rfl le_cap ?_
      refine WweakT (j := 3) rfl le_cap ?_
      refine W_ret rfl ?_
      exact retL (rlT rfl (rlT rfl rl0)) rfl rfl
end Go.Proofs.Ythmibifghihdaaa
end

section
namespace Go.Proofs.Ythmibifghihdaaa
set_option maxRecDepth 20000
open Go.AE
theorem countOf_p (n : Nat) (ks : List (Nat × Nat)) (c : Option Nat) (hv : VB n ks) : Pure Try.prog 70 [bknA n ks c] (i64 ((cntQ n ks : Nat) : Int)) := by
  have hv' := hv
  obtain ⟨hn1, hn, hkl, hk⟩ := hv'
  have h1024 := shl_le hn
  have h2n := shl_ge hn1
  refine pure_of_body Try.func70 (c := body Try.f70) rfl (by simp [Try.ntmps70]) fun w0 Φ0 => ?_
  refine W_seq rfl ?_
  refine W_reg rfl ?_
  refine Rv rfl rfl rfl (U_boxF rfl rfl rfl) rfl rfl ?_
  refine Rv rfl rfl rfl (U_assign rfl) rfl rfl ?_
  refine Re rfl ?_
  refine thenQ_n ?_
  refine W_seq rfl ?_
  refine W_reg rfl ?_
  refine Rv rfl rfl rfl (U_load2 rfl rfl rfl rfl) rfl rfl ?_
  refine Rv rfl rfl rfl (U_call rfl rfl (ways_p n ks c hv) rfl) rfl rfl ?_
  refine Rv rfl rfl rfl (U_move rfl) rfl rfl ?_
  refine Rv rfl rfl rfl (U_extract rfl rfl) rfl rfl ?_
  refine Rv rfl rfl rfl (U_extract rfl rfl) rfl rfl ?_
  refine Rv rfl rfl rfl (U_assign rfl) rfl rfl ?_
  refine Rv rfl rfl rfl (U_assign rfl) rfl rfl ?_
  refine Re rfl ?_
  refine thenQ_n ?_
  refine W_seq rfl ?_
  refine W_reg rfl ?_
  refine Rv rfl rfl rfl (U_move rfl) rfl rfl ?_
  refine Rv rfl rfl rfl (U_move rfl) rfl rfl ?_
  refine Rv rfl rfl rfl (U_lenOf rfl len_ros) rfl rfl ?_
  refine Rv rfl rfl rfl (U_sub rfl rfl (w64e (m := ((1 <<< n - 1 : Nat) : Int)) (by omega) (by omega) (by omega))) rfl rfl ?_
  have hul : (upK n (nxQ n ks) (1 <<< n) 0).length = 1 <<< n := upK_len
  have hx1 : (1 <<< n - 1) < (upK n (nxQ n ks) (1 <<< n) 0).length := by omega
  refine Rv rfl rfl rfl (U_indexR (j := (1 <<< n - 1)) rfl rfl rfl (by omega)) rfl rfl ?_
  refine Rv rfl rfl rfl (U_load1 rfl rfl (getM hx1)) rfl rfl ?_
  refine Rv rfl rfl rfl (U_assign rfl) rfl rfl ?_
  refine Re rfl ?_
  refine thenQ_n ?_
  refine W_ret rfl ?_
  exact retL (rlT rfl rl0) (by first | rfl | (simp only [packA]; rw [upK_end (show 1 <<< n - 1 < 2 ^ n by rw [← one_shl (n := n)]; omega), ← cnt_R hv, full_shl]; first | done | rfl)) rfl
end Go.Proofs.Ythmibifghihdaaa
end

section
namespace Go.Proofs.Ythmibifghihdaaa
set_option maxRecDepth 20000
open Go.AE
def kndR (n : Nat) (ks : List (Nat × Nat)) (a b : Nat) : Int := if cntQ n (ks ++ [(a, b)]) = cntQ n ks then 2 else min ((cntQ n (ks ++ [(a, b)]) : Nat) : Int) 1
theorem nx_sameQ {n : Nat} {ks : List (Nat × Nat)} {m a : Nat} (hv : VB n ks) (hd : DC ks m) : nxB (briQ n ks) m a = nxQ n ks m a := nx_same hv (bfN_tb hv) hd
end Go.Proofs.Ythmibifghihdaaa
end

section
namespace Go.Proofs.Ythmibifghihdaaa
set_option maxRecDepth 20000
open Go.AE
section
variable {n : Nat} {ks : List (Nat × Nat)}
theorem en_sameQ (hv : VB n ks) {m : Nat} (hm : m < 2 ^ n) (hd : DC ks m) : en n (nxB (briQ n ks)) m = en n (nxQ n ks) m := by
  have := @cntN_le n m
  exact en_same hv (bfN_tb hv) (n - cntN n m) m (by omega) hm hd
theorem up_sameQ (hv : VB n ks) {m : Nat} (hm : m < 2 ^ n) : up n (nxB (briQ n ks)) m = up n (nxQ n ks) m := up_same hv (bfN_tb hv) _ m rfl hm
theorem nxB_DC (hv : VB n ks) {m : Nat} (hm : m < 2 ^ n) (h : up n (nxB (briQ n ks)) m ≠ 0) : DC ks m := up_dc (bfN_tb hv) (fun m a h => nxB_R hv (bfN_tb hv) h) _ m rfl hm h
theorem rnk_same (hv : VB n ks) {s : Nat} (hs : s < n) : rnkQ n (nxB (briQ n ks)) s = rnkQ n (nxQ n ks) s := by
  unfold rnkQ
  refine List.map_congr_left fun i _ => sum_congr fun m hm => ?_
  have hm := List.mem_range.1 hm
  by_cases h0 : up n (nxB (briQ n ks)) m = 0
  · rw [← up_sameQ hv hm, h0]; simp
  · have hd := nxB_DC hv hm h0
    rw [nx_sameQ hv hd, up_sameQ hv hm]
    split
    · rename_i h
      have h1 : nxQ n ks m s = true := by
        rw [Bool.and_eq_true] at h; exact h.1
      rw [en_sameQ hv (ad_lt hm hs) (dc_ad hd ((nxR_iff (bfN_tb hv)).1 h1).2)]
    · rfl
end
end Go.Proofs.Ythmibifghihdaaa
end

section
namespace Go.Proofs.Ythmibifghihdaaa
set_option maxRecDepth 20000
open Go.AE
abbrev natsL (l : List Nat) : AV := .ros (l.map n64) l.length none
abbrev ordsA (l : List (List Nat)) (c : Option Nat) : AV := .ros (l.map natsL) l.length c
end Go.Proofs.Ythmibifghihdaaa
end

section
namespace Go.Proofs.Ythmibifghihdaaa
set_option maxRecDepth 20000
open Go.AE
section
variable {n : Nat} {nx : Nat → Nat → Bool}
theorem fwd_fresh (hx : Nxt nx) : ∀ {o : List Nat} {m : Nat}, Fwd n nx m o → o.Nodup ∧ (∀ x ∈ o, m.testBit x = false ∧ x < n)
  | [], m, _ => ⟨List.nodup_nil, by simp⟩
  | a :: o, m, ⟨h1, h2, h3⟩ => by
    obtain ⟨h4, h5⟩ := fwd_fresh hx h3
    have h6 : ∀ x ∈ o, m.testBit x = false ∧ a ≠ x ∧ x < n := fun x hxm => by
      have := h5 x hxm
      rw [ad_tb, Bool.or_eq_false_iff, decide_eq_false_iff_not] at this
      exact ⟨this.1.1, this.1.2, this.2⟩
    refine ⟨List.nodup_cons.2 ⟨fun h => (h6 a h).2.1 rfl, h4⟩, fun x hxm => ?_⟩
    rcases List.mem_cons.1 hxm with rfl | h
    · exact ⟨hx _ _ h2, h1⟩
    · exact ⟨(h6 x h).1, (h6 x h).2.2⟩
end
section
variable {n : Nat} {ks : List (Nat × Nat)}
end
end Go.Proofs.Ythmibifghihdaaa
end

section
namespace Go.Proofs.Ythmibifghihdaaa
set_option maxRecDepth 20000
open Go.AE
def grt (b : Bk) : Bool := decide ((50 : Int) < b.ls.length)
theorem great_p (b : Bk) (c : Option Nat) : Pure Try.prog 18 [bookA b c] (.bool (grt b)) := by
  refine pure_of_body Try.func18 (c := body Try.f18) rfl (by simp [Try.ntmps18]) fun w0 Φ0 => ?_
  refine W_seq rfl ?_
  refine W_reg rfl ?_
  refine Rv rfl rfl rfl (U_boxF rfl rfl rfl) rfl rfl ?_
  refine Rv rfl rfl rfl (U_assign rfl) rfl rfl ?_
  refine Re rfl ?_
  refine thenQ_n ?_
  refine W_seq rfl ?_
  refine W_reg rfl ?_
  refine Rv rfl rfl rfl (U_fieldAddrR rfl) rfl rfl ?_
  refine Rv rfl rfl rfl (U_load1 rfl rfl rfl) rfl rfl ?_
  refine Rv rfl rfl rfl (U_lenOf rfl len_ros) rfl rfl ?_
  refine Rv rfl rfl rfl (U_gtr rfl rfl) rfl rfl ?_
  refine Rv rfl rfl rfl (U_assign rfl) rfl rfl ?_
  refine Re rfl ?_
  refine thenQ_n ?_
  refine W_ret rfl ?_
  exact retL (rlT rfl rl0) (by first | rfl | (simp only [packA]; rfl; first | done | rfl)) rfl
end Go.Proofs.Ythmibifghihdaaa
end

section
namespace Go.Proofs.Ythmibifghihdaaa
set_option maxRecDepth 20000
open Go.AE
section
variable {n : Nat} {ks : List (Nat × Nat)}
theorem oll_isP (hv : VB n ks) : ∀ o ∈ oll n ks, IsP n o := fun o ho => by
  have := (oll_mem hv).1 ho; exact ⟨this.1, this.2.1, this.2.2.1⟩
theorem prt_oll (hv : VB n ks) {x y : Nat} (hv2 : VB n (ks ++ [(x, y)])) : (prt (oll n ks) x y).length = cntQ n (ks ++ [(x, y)]) := by
  rw [← oll_len hv2]
  refine (nodup_permL (List.Pairwise.filter _ oll_nodup) oll_nodup fun o => ?_).length_eq
  rw [List.mem_filter, oll_mem hv, oll_mem hv2]
  simp only [prtB, decide_eq_true_eq]
  constructor
  · rintro ⟨⟨h1, h2, h3, h4⟩, h5⟩
    refine ⟨h1, h2, h3, fun p hp => ?_⟩
    rcases List.mem_append.1 hp with h | h
    · exact h4 p h
    · simp at h; subst h; exact h5
  · rintro ⟨h1, h2, h3, h4⟩
    exact ⟨⟨h1, h2, h3, fun p hp => h4 p (List.mem_append_left _ hp)⟩, h4 (x, y) (by simp)⟩
theorem cnt_split (hv : VB n ks) {x y : Nat} (hv1 : VB n (ks ++ [(x, y)])) (hv2 : VB n (ks ++ [(y, x)])) : cntQ n (ks ++ [(x, y)]) + cntQ n (ks ++ [(y, x)]) = cntQ n ks := by
  have h := hv1.2.2.2 (x, y) (by simp)
  rw [← prt_oll hv hv1, ← prt_oll hv hv2, ← oll_len hv]
  exact prt_sum (oll_isP hv) h.1 h.2.2
theorem faQ_bt (hv : VB n ks) {a b : Nat} : bt ((faQ n ks).g a) b = true ↔ Pth ks a b := by rw [bt_eq]; exact faQ_tb hv
theorem knd_same (hv : VB n ks) (h40 : ks.length ≤ 40) (ha : Acy n ks) {a b : Nat} (ha2 : a < n) (hb2 : b < n) (hab : a ≠ b) : kndQ (faQ n ks) a b = kndR n ks a b := by
  have hv1 := vb_snoc hv (by omega) ha2 hb2 hab
  have hv2 := vb_snoc hv (by omega) hb2 ha2 (Ne.symm hab)
  have hs := cnt_split hv hv1 hv2
  have hp := cnt_acy hv ha
  have i1 := cnt_pos_iff hv1
  have i2 := cnt_pos_iff hv2
  rw [acy_add hv ha hv1] at i1
  rw [acy_add hv ha hv2] at i2
  unfold kndQ kndR
  by_cases h1 : Pth ks a b
  · rw [if_pos ((faQ_bt hv).2 h1), if_pos]
    have : ¬ 0 < cntQ n (ks ++ [(b, a)]) := fun h => i2.1 h h1
    omega
  · rw [if_neg fun h => h1 ((faQ_bt hv).1 h)]
    have h3 := i2.2 h1
    rw [if_neg (show ¬ cntQ n (ks ++ [(a, b)]) = cntQ n ks by omega)]
    by_cases h2 : Pth ks b a
    · rw [if_pos ((faQ_bt hv).2 h2)]
      have : ¬ 0 < cntQ n (ks ++ [(a, b)]) := fun h => i1.1 h h2
      omega
    · rw [if_neg fun h => h2 ((faQ_bt hv).1 h)]
      have := i1.2 h2
      omega
end
end Go.Proofs.Ythmibifghihdaaa
end

section
namespace Go.Proofs.Ythmibifghihdaaa
set_option maxRecDepth 20000
open Go.AE
theorem grt_l {b : Bk} (h : grt b = false) : b.ls.length ≤ 1000000 := by simp [grt] at h; omega
end Go.Proofs.Ythmibifghihdaaa
end

section
namespace Go.Proofs.Ythmibifghihdaaa
set_option maxRecDepth 20000
open Go.AE
def fneB (b : Bk) : Bool := !grt b && decide (chkB b = 0)
theorem fine_p (b : Bk) (c : Option Nat) : Pure Try.prog 46 [bookA b c] (.bool (fneB b)) := by
  refine pure_of_body Try.func46 (c := body Try.f46) rfl (by simp [Try.ntmps46]) fun w0 Φ0 => ?_
  refine W_seq rfl ?_
  refine W_reg rfl ?_
  refine Rv rfl rfl rfl (U_boxF rfl rfl rfl) rfl rfl ?_
  refine Rv rfl rfl rfl (U_assign rfl) rfl rfl ?_
  refine Re rfl ?_
  refine thenQ_n ?_
  refine W_seq rfl ?_
  refine Wjoin ⟨[(2, .bool ((!(grt b)) && (decide ((chkB b) = 0))))], [], 0, []⟩ ?_ ?_
  · refine W_reg rfl ?_
    refine Rv rfl rfl rfl (U_load2 rfl rfl rfl rfl) rfl rfl ?_
    refine Rv rfl rfl rfl (U_call rfl rfl (great_p b c) rfl) rfl rfl ?_
    refine Rv rfl rfl rfl (U_not rfl) rfl rfl ?_
    refine Rv rfl rfl rfl (U_move rfl) rfl rfl ?_
    refine Rsplit (t := 6) rfl (fun hg1 => ?_) (fun hg1 => ?_)
    · rw [hg1]
      have hgr : grt b = false := by simpa using hg1
      have hl := grt_l hgr
      refine Rv rfl rfl rfl (U_load2 rfl rfl rfl rfl) rfl rfl ?_
      refine Rv rfl rfl rfl (U_call rfl rfl (chkBR_p b c hl) rfl) rfl rfl ?_
      refine Rv rfl rfl rfl (U_eql rfl rfl) rfl rfl ?_
      refine Rv rfl rfl rfl (U_pick_t rfl rfl) rfl rfl ?_
      refine Rv rfl rfl rfl (U_assign rfl) rfl rfl ?_
      refine Re rfl ?_
      exact joinTo id ⟨eD rfl rfl, trivial⟩ trivial rfl rfl rfl rfl (fun _ _ => rfl)
    · rw [hg1]
      refine Rs rfl rfl rfl rfl rfl ?_
      refine Rs rfl rfl rfl rfl rfl ?_
      refine Rs rfl rfl rfl rfl rfl ?_
      refine Rv rfl rfl rfl (U_pick_f rfl rfl) rfl rfl ?_
      refine Rv rfl rfl rfl (U_assign rfl) rfl rfl ?_
      refine Re rfl ?_
      exact joinTo id ⟨eD rfl rfl, trivial⟩ trivial rfl rfl rfl rfl (fun _ _ => rfl)
  refine thenQ_n ?_
  refine W_ret rfl ?_
  exact retL (rlT rfl rl0) (by first | rfl | (simp only [packA]; rfl; first | done | rfl)) rfl
theorem fine_F (b : Bk) (c : Option Nat) (h : fneB b = false) : Pure Try.prog 46 [bookA b c] (.bool false) := by have := fine_p b c; rwa [h] at this
theorem fine_T (b : Bk) (c : Option Nat) (h : fneB b = true) : Pure Try.prog 46 [bookA b c] (.bool true) := by have := fine_p b c; rwa [h] at this
theorem fne_ok {b : Bk} (h : fneB b = true) : chkB b = 0 := by
  unfold fneB at h
  rw [Bool.and_eq_true, decide_eq_true_eq] at h
  exact h.2
end Go.Proofs.Ythmibifghihdaaa
end

section
namespace Go.Proofs.Ythmibifghihdaaa
set_option maxRecDepth 20000
open Go.AE
section
variable {n : Nat} {nx : Nat → Nat → Bool}
def elC (n : Nat) (nx : Nat → Nat → Bool) : Nat → Nat → List (List Nat)
  | 0, m => if m = full n then [[]] else []
  | f + 1, m => if m = full n then [[]] else (List.range n).flatMap fun a => if nx m a = true then (elC n nx f (ad m a)).map (a :: ·) else []
theorem elC_len : ∀ (f m : Nat), (elC n nx f m).length = enC n nx f m
  | 0, m => by unfold elC enC; split <;> rfl
  | f + 1, m => by
    unfold elC enC
    split
    · rfl
    · rw [List.length_flatMap]
      refine sum_congr fun a _ => ?_
      split
      · rw [List.length_map, elC_len f]
      · rfl
theorem elC_nodup : ∀ (f m : Nat), (elC n nx f m).Nodup
  | 0, m => by unfold elC; split <;> simp
  | f + 1, m => by
    unfold elC
    split
    · simp
    · refine flat_nodup List.nodup_range (fun a _ => ?_) fun a _ b _ hab x hxa hxb => ?_
      · split
        · exact map_nodup (fun x y h => by simpa using h) (elC_nodup f _)
        · simp
      · split at hxa
        · split at hxb
          · obtain ⟨p, _, rfl⟩ := List.mem_map.1 hxa
            obtain ⟨q, _, e⟩ := List.mem_map.1 hxb
            simp only [List.cons.injEq] at e
            exact hab e.1.symm
          · simp at hxb
        · simp at hxa
theorem fwd_full (hx : Nxt nx) {o : List Nat} (h : Fwd n nx (full n) o) : o = [] := by
  cases o with
  | nil => rfl
  | cons a o =>
    have h1 := hx _ _ h.2.1
    rw [full_tb, decide_eq_false_iff_not] at h1
    exact absurd h.1 h1
theorem elC_mem (hx : Nxt nx) : ∀ (f m : Nat) (o : List Nat), m < 2 ^ n → n ≤ f + cntN n m → (o ∈ elC n nx f m ↔ Fwd n nx m o ∧ m ||| stO o = full n)
  | 0, m, o, hm, hf => by
    have e : m = full n := Classical.byContradiction fun h => by have := cnt_lt hm h; omega
    subst e
    simp only [elC, if_true, List.mem_singleton]
    constructor
    · rintro rfl; exact ⟨trivial, by simp [stO]⟩
    · rintro ⟨h, _⟩; exact fwd_full hx h
  | f + 1, m, o, hm, hf => by
    unfold elC
    split
    · rename_i e; subst e
      rw [List.mem_singleton]
      constructor
      · rintro rfl; exact ⟨trivial, by simp [stO]⟩
      · rintro ⟨h, _⟩; exact fwd_full hx h
    · rename_i hne
      rw [List.mem_flatMap]
      constructor
      · rintro ⟨a, ha, h⟩
        have ha := List.mem_range.1 ha
        split at h
        · rename_i hu
          obtain ⟨p, hp, rfl⟩ := List.mem_map.1 h
          have hc := cnt_ad ha (hx _ _ hu)
          have h1 := (elC_mem hx f (ad m a) p (ad_lt hm ha) (by omega)).1 hp
          refine ⟨⟨ha, hu, h1.1⟩, ?_⟩
          rw [← h1.2]
          show m ||| (stO p ||| 1 <<< a) = (m ||| 1 <<< a) ||| stO p
          rw [Nat.or_assoc, Nat.or_comm (1 <<< a)]
        · simp at h
      · rintro ⟨h1, h2⟩
        cases o with
        | nil => simp [stO] at h2; exact absurd h2 hne
        | cons a p =>
          obtain ⟨ha, hu, hp⟩ := h1
          refine ⟨a, List.mem_range.2 ha, ?_⟩
          rw [if_pos hu]
          have hc := cnt_ad ha (hx _ _ hu)
          refine List.mem_map.2 ⟨p, (elC_mem hx f (ad m a) p (ad_lt hm ha) (by omega)).2 ⟨hp, ?_⟩, rfl⟩
          rw [← h2]
          show (m ||| 1 <<< a) ||| stO p = m ||| (stO p ||| 1 <<< a)
          rw [Nat.or_assoc, Nat.or_comm (1 <<< a)]
end
section
variable {n : Nat} {ks : List (Nat × Nat)}
def bhL (n : Nat) (ks : List (Nat × Nat)) (s m : Nat) : List (List Nat) := (ulC n (nxQ n ks) n m).flatMap fun p => (elC n (nxQ n ks) n (ad m s)).map fun q => p ++ s :: q
theorem len_const {α : Type} {f : α → List (List Nat)} {c : Nat} : ∀ {l : List α}, (∀ a ∈ l, (f a).length = c) → (l.flatMap f).length = l.length * c
  | [], _ => by simp
  | a :: l, h => by
    rw [List.flatMap_cons, List.length_append, h a (by simp), len_const fun b hb => h b (by simp [hb]), List.length_cons, Nat.add_mul]; omega
theorem bhL_len {s m : Nat} : (bhL n ks s m).length = up n (nxQ n ks) m * en n (nxQ n ks) (ad m s) := by
  unfold bhL
  rw [len_const (c := en n (nxQ n ks) (ad m s)) fun p _ => by rw [List.length_map, elC_len]; rfl, ulC_len]; rfl
theorem bhL_mem {s m : Nat} (hs : s < n) (hm : m < 2 ^ n) (hx : nxQ n ks m s = true) {o : List Nat} : o ∈ bhL n ks s m ↔ ∃ p q, o = p ++ s :: q ∧ stO p = m ∧ Fwd n (nxQ n ks) 0 o ∧ stO o = full n := by
  have hc := cnt_ad hs (nxQ_nxt _ _ hx)
  have hcl := @cntN_le n m
  have key : ∀ p q : List Nat, stO (p ++ s :: q) = ad (stO p) s ||| stO q := fun p q => by
    apply Nat.eq_of_testBit_eq; intro b
    rw [Bool.eq_iff_iff, stO_tb, Nat.testBit_or, ad_tb, Bool.or_eq_true, Bool.or_eq_true, stO_tb, stO_tb, decide_eq_true_eq, List.mem_append, List.mem_cons]
    constructor
    · rintro (h | h | h)
      · exact .inl (.inl h)
      · exact .inl (.inr h.symm)
      · exact .inr h
    · rintro ((h | h) | h)
      · exact .inl h
      · exact .inr (.inl h.symm)
      · exact .inr (.inr h)
  unfold bhL
  rw [List.mem_flatMap]
  constructor
  · rintro ⟨p, hp, h⟩
    obtain ⟨q, hq, rfl⟩ := List.mem_map.1 h
    have h1 := (ulC_mem nxQ_nxt n m p hm hcl).1 hp
    have h2 := (elC_mem nxQ_nxt n (ad m s) q (ad_lt hm hs) (by omega)).1 hq
    refine ⟨p, q, rfl, h1.2, fwd_app.2 ⟨h1.1, ?_⟩, ?_⟩
    · rw [Nat.zero_or, h1.2]; exact ⟨hs, hx, h2.1⟩
    · rw [key, h1.2]; exact h2.2
  · rintro ⟨p, q, rfl, h1, h2, h3⟩
    obtain ⟨h4, h5⟩ := fwd_app.1 h2
    rw [Nat.zero_or, h1] at h5
    rw [key, h1] at h3
    exact ⟨p, (ulC_mem nxQ_nxt n m p hm hcl).2 ⟨h4, h1⟩, List.mem_map.2 ⟨q, (elC_mem nxQ_nxt n (ad m s) q (ad_lt hm hs) (by omega)).2 ⟨h5.2.2, h3⟩, rfl⟩⟩
end
end Go.Proofs.Ythmibifghihdaaa
end

section
namespace Go.Proofs.Ythmibifghihdaaa
set_option maxRecDepth 20000
open Go.AE
section
variable {n : Nat} {ks : List (Nat × Nat)}
theorem plc_at {p q : List Nat} {s : Nat} (h : s ∉ p) : plc (p ++ s :: q) s = p.length := by
  have : plc ((p ++ [s]) ++ q) s = p.length := by
    unfold plc idxI
    rw [List.findIdx?_append, List.findIdx?_append]
    have e : p.findIdx? (fun y => decide (s = y)) = none := by
      rw [List.findIdx?_eq_none_iff]
      intro y hy; simp; rintro rfl; exact h hy
    rw [e]; simp
  rw [List.append_assoc] at this; exact this
theorem split_eq {p q p' q' : List Nat} {s : Nat} (h : s ∉ p) (h' : s ∉ p') (e : p ++ s :: q = p' ++ s :: q') : p = p' := by
  have h1 := plc_at (q := q) h
  rw [e, plc_at h'] at h1
  exact List.append_inj_left e (by omega)
theorem nx_out {m s : Nat} (hx : nxQ n ks m s = true) {p : List Nat} (hp : stO p = m) : s ∉ p := fun h => by
  have h1 := nxQ_nxt _ _ hx
  rw [← hp, stO_tb.2 h] at h1; cases h1
theorem bhL_nodup {s m : Nat} (hm : m < 2 ^ n) (hx : nxQ n ks m s = true) : (bhL n ks s m).Nodup := by
  unfold bhL
  have hcl := @cntN_le n m
  refine flat_nodup (ulC_nodup _ _) (fun p _ => map_nodup (fun x y h => ?_) (elC_nodup _ _)) fun p hp p' hp' hne x hxp hxp' => ?_
  · have := List.append_cancel_left h; simpa using this
  · obtain ⟨q, _, rfl⟩ := List.mem_map.1 hxp
    obtain ⟨q', _, e⟩ := List.mem_map.1 hxp'
    have h1 := (ulC_mem nxQ_nxt n m p hm hcl).1 hp
    have h2 := (ulC_mem nxQ_nxt n m p' hm hcl).1 hp'
    exact hne (split_eq (nx_out hx h1.2) (nx_out hx h2.2) e.symm)
def rnL (n : Nat) (ks : List (Nat × Nat)) (s i : Nat) : List (List Nat) := (List.range (2 ^ n)).flatMap fun m => if (nxQ n ks m s && decide (popN m = i)) = true then bhL n ks s m else []
theorem rnL_len {s i : Nat} (h : i < (rnkQ n (nxQ n ks) s).length) : (rnL n ks s i).length = (rnkQ n (nxQ n ks) s)[i] := by
  have e : (rnkQ n (nxQ n ks) s)[i] = ((List.range (2 ^ n)).map fun m => if (nxQ n ks m s && decide (popN m = i)) = true then up n (nxQ n ks) m * en n (nxQ n ks) (ad m s) else 0).sum := by simp [rnkQ]
  rw [e, rnL, List.length_flatMap]
  refine sum_congr fun m _ => ?_
  split
  · rw [bhL_len]
  · rfl
theorem rnL_nodup {s i : Nat} (hs : s < n) : (rnL n ks s i).Nodup := by
  refine flat_nodup List.nodup_range (fun m hm => ?_) fun m hm m' hm' hne x hx hx' => ?_
  · split
    · rename_i h; rw [Bool.and_eq_true] at h; exact bhL_nodup (List.mem_range.1 hm) h.1
    · simp
  · split at hx
    · split at hx'
      · rename_i h h'
        rw [Bool.and_eq_true] at h h'
        obtain ⟨p, q, e, h1, _⟩ := (bhL_mem hs (List.mem_range.1 hm) h.1).1 hx
        obtain ⟨p', q', e', h1', _⟩ := (bhL_mem hs (List.mem_range.1 hm') h'.1).1 hx'
        have := split_eq (nx_out h.1 h1) (nx_out h'.1 h1') (e.symm.trans e')
        subst this
        exact hne (h1.symm.trans h1')
      · simp at hx'
    · simp at hx
theorem rnL_mem (hn : n ≤ 10) {s i : Nat} (hs : s < n) {o : List Nat} : o ∈ rnL n ks s i ↔ o ∈ oll n ks ∧ plc o s = i := by
  have ho : o ∈ oll n ks ↔ Fwd n (nxQ n ks) 0 o ∧ stO o = full n := by
    rw [oll, ulC_mem nxQ_nxt n (full n) o full_lt (by rw [full_cnt]; exact Nat.le_refl _)]
  unfold rnL
  rw [List.mem_flatMap, ho]
  constructor
  · rintro ⟨m, hm, h⟩
    have hm := List.mem_range.1 hm
    split at h
    · rename_i hc
      rw [Bool.and_eq_true, decide_eq_true_eq] at hc
      obtain ⟨p, q, rfl, h1, h2, h3⟩ := (bhL_mem hs hm hc.1).1 h
      refine ⟨⟨h2, h3⟩, ?_⟩
      have h4 := fwd_fresh nxQ_nxt (fwd_app.1 h2).1
      rw [plc_at (nx_out hc.1 h1), ← cnt_set h4.1 fun x hx => (h4.2 x hx).2, h1, ← hc.2, pop_cnt hn hm]
    · simp at h
  · rintro ⟨⟨h2, h3⟩, h4⟩
    have hso : s ∈ o := plc_mem.1 (by omega)
    obtain ⟨p, q, hp, rfl⟩ : ∃ p q, s ∉ p ∧ o = p ++ s :: q := by
      have : ∀ o : List Nat, s ∈ o → ∃ p q, s ∉ p ∧ o = p ++ s :: q := by
        intro o
        induction o with
        | nil => intro h; simp at h
        | cons a o ih =>
          intro h
          by_cases e : s = a
          · subst e; exact ⟨[], o, by simp, rfl⟩
          · rcases List.mem_cons.1 h with h | h
            · exact absurd h e
            · obtain ⟨p, q, h1, rfl⟩ := ih h
              exact ⟨a :: p, q, by simp [e, h1], rfl⟩
      exact this o hso
    rw [plc_at hp] at h4
    have h5 := fwd_app.1 h2
    rw [Nat.zero_or] at h5
    have h6 := fwd_fresh nxQ_nxt h5.1
    have hlt : stO p < 2 ^ n := stO_lt fun x hx => (h6.2 x hx).2
    refine ⟨stO p, List.mem_range.2 hlt, ?_⟩
    have hx : nxQ n ks (stO p) s = true := h5.2.2.1
    rw [if_pos (by
      rw [hx, Bool.true_and, decide_eq_true_eq, pop_cnt hn hlt, cnt_set h6.1 fun x hx => (h6.2 x hx).2]; omega)]
    exact (bhL_mem hs hlt hx).2 ⟨p, q, rfl, rfl, h2, h3⟩
theorem rnk_cnt (hn : n ≤ 10) {s i : Nat} (hs : s < n) (h : i < (rnkQ n (nxQ n ks) s).length) : (rnkQ n (nxQ n ks) s)[i] = (oll n ks).countP fun o => decide (plc o s = (i : Int)) := by
  rw [← rnL_len h, List.countP_eq_length_filter]
  refine (nodup_permL (rnL_nodup hs) (List.Pairwise.filter _ oll_nodup) fun o => ?_).length_eq
  rw [rnL_mem hn hs, List.mem_filter, decide_eq_true_eq]
end
end Go.Proofs.Ythmibifghihdaaa
end

section
namespace Go.Proofs.Ythmibifghihdaaa
set_option maxRecDepth 20000
open Go.AE
theorem swap_sum {α : Type} {p : Nat → α → Bool} : ∀ (L : List α) (l : List Nat), (l.map fun s => L.countP (p s)).sum = (L.map fun o => l.countP fun s => p s o).sum
  | [], l => by
    have e : ∀ l : List Nat, (l.map fun _ => 0).sum = 0 := fun l => by
      induction l with
      | nil => rfl
      | cons x l ih => simpa using ih
    simpa using e l
  | o :: L, l => by
    have h : (l.map fun s => (o :: L).countP (p s)) = l.map fun s => L.countP (p s) + if p s o = true then 1 else 0 := List.map_congr_left fun s _ => by rw [List.countP_cons]
    rw [h, sum_add, swap_sum L l, List.map_cons, List.sum_cons, sum_cnt (v := 1), Nat.mul_one]
    have e : (l.countP fun s => p s o) = l.countP (fun a => p a o) := rfl
    omega
theorem sum_ones {α : Type} {f : α → Nat} : ∀ {L : List α}, (∀ o ∈ L, f o = 1) → (L.map f).sum = L.length
  | [], _ => rfl
  | o :: L, h => by
    rw [List.map_cons, List.sum_cons, h o (by simp), sum_ones fun x hx => h x (by simp [hx]), List.length_cons]; omega
theorem count_eq {p : Nat → Bool} {a n : Nat} (ha : a < n) (h : ∀ b, b < n → (p b = true ↔ b = a)) : (List.range n).countP p = 1 := by
  have : (List.range n).countP p = (List.range n).countP fun b => b == a := List.countP_congr fun b hb => by
    rw [h b (List.mem_range.1 hb)]; simp
  rw [this]
  have h2 : (List.range n).count a = 1 := by rw [List.nodup_range.count, if_pos (List.mem_range.2 ha)]
  exact h2
section
variable {n : Nat} {ks : List (Nat × Nat)}
theorem plc_get {o : List Nat} (hn : o.Nodup) {i : Nat} (hi : i < o.length) : plc o o[i] = i := idx_at hn hi
theorem rnk_len {s : Nat} : (rnkQ n (nxQ n ks) s).length = n := by simp [rnkQ]
theorem rnk_getD (hn : n ≤ 10) {s i : Nat} (hs : s < n) (hi : i < n) : (rnkQ n (nxQ n ks) s).getD i 0 = (oll n ks).countP fun o => decide (plc o s = (i : Int)) := by
  rw [getD_eq (by rw [rnk_len]; exact hi), rnk_cnt hn hs]
theorem sum_star (hv : VB n ks) {s : Nat} (hs : s < n) : ((List.range n).map fun i => (rnkQ n (nxQ n ks) s).getD i 0).sum = cntQ n ks := by
  rw [sum_congr (g := fun i => (oll n ks).countP fun o => decide (plc o s = (i : Int))) fun i hi => rnk_getD hv.2.1 hs (List.mem_range.1 hi), swap_sum, ← oll_len hv]
  refine sum_ones fun o ho => ?_
  have h := oll_isP hv o ho
  have hm := all_in h.2.1 h.1 h.2.2 hs
  have h0 := plc_mem.2 hm
  have h1 := @plc_lt o s
  refine count_eq (a := (plc o s).toNat) (by rw [h.1] at h1; omega) fun b _ => ?_
  rw [decide_eq_true_eq]; omega
theorem sum_rank (hv : VB n ks) {i : Nat} (hi : i < n) : ((List.range n).map fun s => (rnkQ n (nxQ n ks) s).getD i 0).sum = cntQ n ks := by
  rw [sum_congr (g := fun s => (oll n ks).countP fun o => decide (plc o s = (i : Int))) fun s hs => rnk_getD hv.2.1 (List.mem_range.1 hs) hi, swap_sum, ← oll_len hv]
  refine sum_ones fun o ho => ?_
  have h := oll_isP hv o ho
  have hil : i < o.length := by rw [h.1]; exact hi
  have hp := plc_get h.2.1 hil
  refine count_eq (a := o[i]) (h.2.2 _ (List.getElem_mem hil)) fun b hb => ?_
  rw [decide_eq_true_eq]
  constructor
  · intro e; exact plc_inj (all_in h.2.1 h.1 h.2.2 hb) (e.trans hp.symm)
  · rintro rfl; exact hp
theorem rnk_le (hv : VB n ks) {s i : Nat} (hs : s < n) (hi : i < n) : (rnkQ n (nxQ n ks) s).getD i 0 ≤ cntQ n ks := by
  rw [rnk_getD hv.2.1 hs hi, ← oll_len hv]; exact List.countP_le_length
end
end Go.Proofs.Ythmibifghihdaaa
end

section
namespace Go.Proofs.Ythmibifghihdaaa
set_option maxRecDepth 20000
open Go.AE
theorem ordered_F (b : Bk) (c : Option Nat) (hf : fneB b = false) : Pure Try.prog 47 [bookA b c] (.bool false) := by
  refine pure_of_body Try.func47 (c := body Try.f47) rfl (by simp [Try.ntmps47]) fun w0 Φ0 => ?_
  refine W_seq rfl ?_
  refine W_reg rfl ?_
  refine Rv rfl rfl rfl (U_boxF rfl rfl rfl) rfl rfl ?_
  refine Rv rfl rfl rfl (U_assign rfl) rfl rfl ?_
  refine Re rfl ?_
  refine thenQ_n ?_
  refine W_seq rfl ?_
  refine W_reg rfl ?_
  refine Rv rfl rfl rfl (U_load2 rfl rfl rfl rfl) rfl rfl ?_
  refine Rv rfl rfl rfl (U_call rfl rfl (fine_F b c hf) rfl) rfl rfl ?_
  refine Rv rfl rfl rfl (U_move rfl) rfl rfl ?_
  refine Rs rfl rfl rfl rfl rfl ?_
  refine Rs rfl rfl rfl rfl rfl ?_
  refine Rs rfl rfl rfl rfl rfl ?_
  refine Rv rfl rfl rfl (U_pick_f rfl rfl) rfl rfl ?_
  refine Rv rfl rfl rfl (U_assign rfl) rfl rfl ?_
  refine Re rfl ?_
  refine thenQ_n ?_
  refine W_ret rfl ?_
  exact retL (rlT rfl rl0) rfl rfl
theorem ordered_Y (n : Nat) (ks : List (Nat × Nat)) (c : Option Nat) (hv : VB n ks) (hf : Pure Try.prog 46 [bknA n ks c] (.bool true)) (g : Nat) (hg : Cyc n ks g) : Pure Try.prog 47 [bknA n ks c] (.bool false) := by
  refine pure_of_body Try.func47 (c := body Try.f47) rfl (by simp [Try.ntmps47]) fun w0 Φ0 => ?_
  refine W_seq rfl ?_
  refine W_reg rfl ?_
  refine Rv rfl rfl rfl (U_boxF rfl rfl rfl) rfl rfl ?_
  refine Rv rfl rfl rfl (U_assign rfl) rfl rfl ?_
  refine Re rfl ?_
  refine thenQ_n ?_
  refine W_seq rfl ?_
  refine W_reg rfl ?_
  refine Rv rfl rfl rfl (U_load2 rfl rfl rfl rfl) rfl rfl ?_
  refine Rv rfl rfl rfl (U_call rfl rfl (hf) rfl) rfl rfl ?_
  refine Rv rfl rfl rfl (U_move rfl) rfl rfl ?_
  refine Rv rfl rfl rfl (U_load2 rfl rfl rfl rfl) rfl rfl ?_
  refine Rv rfl rfl rfl (U_call rfl rfl (countOf_p n ks c hv) rfl) rfl rfl ?_
  refine Rv rfl rfl rfl (OpU.toB (U_gtr rfl rfl) (decide_eq_false (by rw [cnt_cyc hv hg]; simp))) rfl rfl ?_
  refine Rv rfl rfl rfl (U_pick_t rfl rfl) rfl rfl ?_
  refine Rv rfl rfl rfl (U_assign rfl) rfl rfl ?_
  refine Re rfl ?_
  refine thenQ_n ?_
  refine W_ret rfl ?_
  exact retL (rlT rfl rl0) rfl rfl
theorem ordered_A (n : Nat) (ks : List (Nat × Nat)) (c : Option Nat) (hv : VB n ks) (hf : Pure Try.prog 46 [bknA n ks c] (.bool true)) (ha : Acy n ks) : Pure Try.prog 47 [bknA n ks c] (.bool true) := by
  refine pure_of_body Try.func47 (c := body Try.f47) rfl (by simp [Try.ntmps47]) fun w0 Φ0 => ?_
  refine W_seq rfl ?_
  refine W_reg rfl ?_
  refine Rv rfl rfl rfl (U_boxF rfl rfl rfl) rfl rfl ?_
  refine Rv rfl rfl rfl (U_assign rfl) rfl rfl ?_
  refine Re rfl ?_
  refine thenQ_n ?_
  refine W_seq rfl ?_
  refine W_reg rfl ?_
  refine Rv rfl rfl rfl (U_load2 rfl rfl rfl rfl) rfl rfl ?_
  refine Rv rfl rfl rfl (U_call rfl rfl (hf) rfl) rfl rfl ?_
  refine Rv rfl rfl rfl (U_move rfl) rfl rfl ?_
  refine Rv rfl rfl rfl (U_load2 rfl rfl rfl rfl) rfl rfl ?_
  refine Rv rfl rfl rfl (U_call rfl rfl (countOf_p n ks c hv) rfl) rfl rfl ?_
  refine Rv rfl rfl rfl (OpU.toB (U_gtr rfl rfl) (decide_eq_true (by have := cnt_acy hv ha; omega))) rfl rfl ?_
  refine Rv rfl rfl rfl (U_pick_t rfl rfl) rfl rfl ?_
  refine Rv rfl rfl rfl (U_assign rfl) rfl rfl ?_
  refine Re rfl ?_
  refine thenQ_n ?_
  refine W_ret rfl ?_
  exact retL (rlT rfl rl0) rfl rfl
theorem ranksQ_p (n : Nat) (ks : List (Nat × Nat)) (c : Option Nat) (hv : VB n ks) (h40 : ks.length ≤ 40) (ha : Acy n ks) (s : Nat) (hs : s < n) : Pure Try.prog 39 [bknA n ks c, i64 (s : Nat)] (.tup [natsA (rnkQ n (nxQ n ks) s) none, i64 0]) := by
  have h := ranks_g n ks c hv h40 ha s hs
  rw [rnk_same hv hs] at h
  rw [natsA, rnk_len]; exact h
theorem cntA_p (n : Nat) (ks : List (Nat × Nat)) (c : Option Nat) (hv : VB n ks) (h40 : ks.length ≤ 40) (ha : Acy n ks) : Pure Try.prog 28 [bknA n ks c] (.tup [i64 ((cntQ n ks : Nat) : Int), i64 0]) := countP_a n ks c hv h40 ha
def tabK (n : Nat) (ks : List (Nat × Nat)) (k : Nat) : List (List Nat) := (List.range k).map (rnkQ n (nxQ n ks))
theorem tabK_S {n k : Nat} {ks : List (Nat × Nat)} : tabK n ks (k + 1) = tabK n ks k ++ [rnkQ n (nxQ n ks) k] := by simp [tabK, List.range_succ]
theorem tabK_len {n k : Nat} {ks : List (Nat × Nat)} : (tabK n ks k).length = k := by simp [tabK]
theorem table_g (n : Nat) (ks : List (Nat × Nat)) (c : Option Nat) (hv : VB n ks) (h40 : ks.length ≤ 40) (ha : Acy n ks) : Pure Try.prog 49 [bknA n ks c] (.tup [ordsA (tabK n ks n) none, i64 ((cntQ n ks : Nat) : Int), .bool true]) := by
  have hv' := hv
  obtain ⟨hn1, hn, hkl, hk⟩ := hv'
  have hk2 := vb_lt hv
  have hcp := cnt_acy hv ha
  have hcl := cntQ_le hv
  refine pure_of_body Try.func49 (c := body Try.f49) rfl (by simp [Try.ntmps49]) fun w0 Φ0 => ?_
  refine W_seq rfl ?_
  refine W_reg rfl ?_
  refine Rv rfl rfl rfl (U_boxF rfl rfl rfl) rfl rfl ?_
  refine Rv rfl rfl rfl (U_assign rfl) rfl rfl ?_
  refine Rv rfl rfl rfl (U_assign rfl) rfl rfl ?_
  refine Rv rfl rfl rfl (U_assign rfl) rfl rfl ?_
  refine Re rfl ?_
  refine thenQ_n ?_
  refine W_seq rfl ?_
  refine W_reg rfl ?_
  refine Rv rfl rfl rfl (U_load2 rfl rfl rfl rfl) rfl rfl ?_
  refine Rv rfl rfl rfl (U_call rfl rfl (cntA_p n ks c hv h40 ha) rfl) rfl rfl ?_
  refine Rv rfl rfl rfl (U_move rfl) rfl rfl ?_
  refine Rv rfl rfl rfl (U_extract rfl rfl) rfl rfl ?_
  refine Rv rfl rfl rfl (U_extract rfl rfl) rfl rfl ?_
  refine Rv rfl rfl rfl (U_assign rfl) rfl rfl ?_
  refine Rv rfl rfl rfl (U_assign rfl) rfl rfl ?_
  refine Re rfl ?_
  refine thenQ_n ?_
  refine W_seq rfl ?_
  refine W_seq rfl ?_
  refine W_reg rfl ?_
  refine Rv rfl rfl rfl (U_move rfl) rfl rfl ?_
  refine Rv rfl rfl rfl (OpU.toB (U_neq rfl rfl) (decide_eq_false (by omega))) rfl rfl ?_
  refine Rv rfl rfl rfl (U_move rfl) rfl rfl ?_
  refine Rv rfl rfl rfl (U_move rfl) rfl rfl ?_
  refine Rv rfl rfl rfl (OpU.toB (U_lss rfl rfl) (decide_eq_false (by omega))) rfl rfl ?_
  refine Rv rfl rfl rfl (U_pick_f rfl rfl) rfl rfl ?_
  refine Rv rfl rfl rfl (U_move rfl) rfl rfl ?_
  refine Rv rfl rfl rfl (U_move rfl) rfl rfl ?_
  refine Rv rfl rfl rfl (OpU.toB (U_gtr rfl rfl) (decide_eq_false (by omega))) rfl rfl ?_
  refine Rv rfl rfl rfl (U_pick_f rfl rfl) rfl rfl ?_
  refine Re rfl ?_
  refine thenQ_n ?_
  refine Wcond rfl rfl (fun h => nomatch h) (fun _ => ?_)
  refine W_skip rfl ?_
  refine thenQ_n ?_
  refine W_seq rfl ?_
  refine W_reg rfl ?_
  refine Rv rfl rfl rfl (U_assign rfl) rfl rfl ?_
  refine Re rfl ?_
  refine thenQ_n ?_
  refine W_seq rfl ?_
  refine W_seq rfl ?_
  refine W_reg rfl ?_
  refine Rv rfl rfl rfl (U_assign rfl) rfl rfl ?_
  refine Re rfl ?_
  refine thenQ_n ?_
  refine W_block rfl ?_
  refine LoopTo (T' := [(1, .rop [i64 ((n : Nat) : Int), .ros (ks.flatMap lkN) ks.length c] 0), (5, i64 ((cntQ n ks : Nat) : Int)), (7, .out 0 [].length 1), (8, i64 ((0 : Nat) : Int))]) (H' := [(0, outB ([].map natsL) 48 [].length)]) (n := 1) rfl (fun mz_ qz_ => ∃ (s : Nat) (P : List (List Nat)), s ≤ n ∧ P = tabK n ks s ∧ mz_ = n - s ∧ qz_ = ⟨[(1, .rop [i64 ((n : Nat) : Int), .ros (ks.flatMap lkN) ks.length c] 0), (5, i64 ((cntQ n ks : Nat) : Int)), (7, .out 0 P.length 1), (8, i64 ((s : Nat) : Int))], [(0, outB (P.map natsL) 48 P.length)], 1, []⟩) ⟨0, [], (by omega), rfl, rfl, rfl⟩ id ⟨eD rfl rfl, eD rfl rfl, eW rfl le_nils_out rfl, eD rfl rfl, trivial⟩ ⟨rO0 rfl, trivial⟩ rfl rfl rfl rfl (fun _ _ => rfl) ?_
  rintro _ _ ⟨s, P, hi0_0, hi0_1, rfl, rfl⟩
  have hPl : P.length ≤ s := by rw [hi0_1, tabK_len]; exact Nat.le_refl _
  refine W_seq rfl ?_
  refine W_seq rfl ?_
  refine W_reg rfl ?_
  refine Rv rfl rfl rfl (U_move rfl) rfl rfl ?_
  refine Rv rfl rfl rfl (U_fieldAddrR rfl) rfl rfl ?_
  refine Rv rfl rfl rfl (U_load1 rfl rfl rfl) rfl rfl ?_
  refine Rv rfl rfl rfl (U_lss rfl rfl) rfl rfl ?_
  refine Re rfl ?_
  refine thenQ_n ?_
  refine WcondP rfl rfl (fun hc1 => ?_) (fun hc1 => ?_)
  · have hsn : s < n := by omega
    have hql : (rnkQ n (nxQ n ks) s).length = n := rnk_len
    refine W_skip rfl ?_
    refine thenQ_n ?_
    refine W_seq rfl ?_
    refine W_block rfl ?_
    refine W_seq rfl ?_
    refine W_reg rfl ?_
    refine Rv rfl rfl rfl (U_load2 rfl rfl rfl rfl) rfl rfl ?_
    refine Rv rfl rfl rfl (U_move rfl) rfl rfl ?_
    refine Rv rfl rfl rfl (U_call rfl rfl (ranksQ_p n ks c hv h40 ha s (by omega)) rfl) rfl rfl ?_
    refine Rv rfl rfl rfl (U_move rfl) rfl rfl ?_
    refine Rv rfl rfl rfl (U_extract rfl rfl) rfl rfl ?_
    refine Rv rfl rfl rfl (U_extract rfl rfl) rfl rfl ?_
    refine Rv rfl rfl rfl (U_assign rfl) rfl rfl ?_
    refine Rv rfl rfl rfl (U_assign rfl) rfl rfl ?_
    refine Re rfl ?_
    refine thenQ_n ?_
    refine W_seq rfl ?_
    refine W_seq rfl ?_
    refine W_reg rfl ?_
    refine Rv rfl rfl rfl (U_move rfl) rfl rfl ?_
    refine Rv rfl rfl rfl (OpU.toB (U_neq rfl rfl) (decide_eq_false (by omega))) rfl rfl ?_
    refine Rv rfl rfl rfl (U_move rfl) rfl rfl ?_
    refine Rv rfl rfl rfl (U_move rfl) rfl rfl ?_
    refine Rv rfl rfl rfl (U_lenOf rfl len_ros) rfl rfl ?_
    refine Rv rfl rfl rfl (U_fieldAddrR rfl) rfl rfl ?_
    refine Rv rfl rfl rfl (U_load1 rfl rfl rfl) rfl rfl ?_
    refine Rv rfl rfl rfl (OpU.toB (U_neq rfl rfl) (decide_eq_false (by omega))) rfl rfl ?_
    refine Rv rfl rfl rfl (U_pick_f rfl rfl) rfl rfl ?_
    refine Re rfl ?_
    refine thenQ_n ?_
    refine Wcond rfl rfl (fun h => nomatch h) (fun _ => ?_)
    refine W_skip rfl ?_
    refine thenQ_n ?_
    refine W_seq rfl ?_
    refine W_seq rfl ?_
    refine W_reg rfl ?_
    refine Rv rfl rfl rfl (U_assign rfl) rfl rfl ?_
    refine Re rfl ?_
    refine thenQ_n ?_
    refine W_block rfl ?_
    refine LoopTo (T' := [(1, .rop [i64 ((n : Nat) : Int), .ros (ks.flatMap lkN) ks.length c] 0), (5, i64 ((cntQ n ks : Nat) : Int)), (7, .out 0 P.length 1), (8, i64 ((s : Nat) : Int)), (9, .ros ((rnkQ n (nxQ n ks) s).map n64) ((rnkQ n (nxQ n ks) s).length) none), (11, i64 ((0 : Nat) : Int))]) (H' := [(0, outB (P.map natsL) 48 P.length)]) (n := 1) rfl (fun mz_ qz_ => ∃ (i : Nat), i ≤ n ∧ mz_ = n - i ∧ qz_ = ⟨[(1, .rop [i64 ((n : Nat) : Int), .ros (ks.flatMap lkN) ks.length c] 0), (5, i64 ((cntQ n ks : Nat) : Int)), (7, .out 0 P.length 1), (8, i64 ((s : Nat) : Int)), (9, .ros ((rnkQ n (nxQ n ks) s).map n64) ((rnkQ n (nxQ n ks) s).length) none), (11, i64 ((i : Nat) : Int))], [(0, outB (P.map natsL) 48 P.length)], 1, []⟩) ⟨0, (by omega), rfl, rfl⟩ id ⟨eD rfl rfl, eD rfl rfl, e_ rfl rfl, eD rfl rfl, eD rfl rfl, eD rfl rfl, trivial⟩ ⟨rO (mapD (fun _ => rfl) _) rfl rfl, trivial⟩ rfl rfl rfl rfl (fun _ _ => rfl) ?_
    rintro _ _ ⟨i, hi1_0, rfl, rfl⟩
    refine W_seq rfl ?_
    refine W_seq rfl ?_
    refine W_reg rfl ?_
    refine Rv rfl rfl rfl (U_move rfl) rfl rfl ?_
    refine Rv rfl rfl rfl (U_move rfl) rfl rfl ?_
    refine Rv rfl rfl rfl (U_lenOf rfl len_ros) rfl rfl ?_
    refine Rv rfl rfl rfl (U_lss rfl rfl) rfl rfl ?_
    refine Re rfl ?_
    refine thenQ_n ?_
    refine WcondP rfl rfl (fun hc3 => ?_) (fun hc3 => ?_)
    · have hin : i < n := by omega
      have hiq : i < (rnkQ n (nxQ n ks) s).length := by omega
      have hle := rnk_le hv hsn hin
      rw [getD_eq hiq] at hle
      refine W_skip rfl ?_
      refine thenQ_n ?_
      refine W_seq rfl ?_
      refine W_block rfl ?_
      refine W_seq rfl ?_
      refine W_reg rfl ?_
      refine Rv rfl rfl rfl (U_move rfl) rfl rfl ?_
      refine Rv rfl rfl rfl (U_move rfl) rfl rfl ?_
      have hx1 : i < (rnkQ n (nxQ n ks) s).length := by omega
      refine Rv rfl rfl rfl (U_indexR (j := i) rfl rfl rfl hx1) rfl rfl ?_
      refine Rv rfl rfl rfl (U_load1 rfl rfl (getM hx1)) rfl rfl ?_
      refine Rv rfl rfl rfl (OpU.toB (U_lss rfl rfl) (decide_eq_false (by omega))) rfl rfl ?_
      refine Rv rfl rfl rfl (U_move rfl) rfl rfl ?_
      refine Rv rfl rfl rfl (U_move rfl) rfl rfl ?_
      refine Rv rfl rfl rfl (U_move rfl) rfl rfl ?_
      refine Rv rfl rfl rfl (U_indexR (j := i) rfl rfl rfl hx1) rfl rfl ?_
      refine Rv rfl rfl rfl (U_load1 rfl rfl (getM hx1)) rfl rfl ?_
      refine Rv rfl rfl rfl (U_move rfl) rfl rfl ?_
      refine Rv rfl rfl rfl (OpU.toB (U_gtr rfl rfl) (decide_eq_false (by omega))) rfl rfl ?_
      refine Rv rfl rfl rfl (U_pick_f rfl rfl) rfl rfl ?_
      refine Re rfl ?_
      refine thenQ_n ?_
      refine Wcond rfl rfl (fun h => nomatch h) (fun _ => ?_)
      refine W_skip rfl ?_
      refine blkQ_n ?_
      refine thenQ_n ?_
      refine W_reg rfl ?_
      refine Rv rfl rfl rfl (U_move rfl) rfl rfl ?_
      refine Rv rfl rfl rfl (U_add rfl rfl (w64e (m := ((i + 1 : Nat) : Int)) (by omega) (by omega) (by omega))) rfl rfl ?_
      refine Rv rfl rfl rfl (U_assign rfl) rfl rfl ?_
      refine Re rfl ?_
      refine thenQ_n ?_
      exact againTo (T' := [(1, .rop [i64 ((n : Nat) : Int), .ros (ks.flatMap lkN) ks.length c] 0), (5, i64 ((cntQ n ks : Nat) : Int)), (7, .out 0 P.length 1), (8, i64 ((s : Nat) : Int)), (9, .ros ((rnkQ n (nxQ n ks) s).map n64) ((rnkQ n (nxQ n ks) s).length) none), (11, i64 (((i + 1) : Nat) : Int))]) (H' := [(0, outB (P.map natsL) 48 P.length)]) (n := 1) (n - (i + 1)) ⟨i + 1, (by omega), rfl, rfl⟩ (by omega) id ⟨eD rfl rfl, eD rfl rfl, e_ rfl rfl, eD rfl rfl, eD rfl rfl, eD rfl rfl, trivial⟩ ⟨rO (mapD (fun _ => rfl) _) rfl rfl, trivial⟩ rfl rfl rfl rfl (fun _ _ => rfl)
    · refine W_exit rfl ?_
      refine thenQ_x ?_
      refine thenQ_x ?_
      refine blkQ_x rfl ?_
      refine thenQ_n ?_
      refine W_reg rfl ?_
      refine Rv rfl rfl rfl (U_move rfl) rfl rfl ?_
      refine Rv rfl rfl rfl (U_move rfl) rfl rfl ?_
      refine Rv rfl rfl rfl (U_buildSliceF (by rfl) (by decide) rfl rfl rfl) rfl rfl ?_
      refine Ra rfl rfl rfl (U_appO (b := 0) (m := 0) (cs' := (P ++ [rnkQ n (nxQ n ks) s]).map natsL) (n' := (P ++ [rnkQ n (nxQ n ks) s]).length) rfl rfl (by simp) rfl (map_len1 _) rfl rfl (by omega) (appM _ _) (len1 _ _)) rfl rfl rfl ?_
      refine Rv rfl rfl rfl (U_assign rfl) rfl rfl ?_
      refine Re rfl ?_
      refine blkQ_n ?_
      refine thenQ_n ?_
      refine W_reg rfl ?_
      refine Rv rfl rfl rfl (U_move rfl) rfl rfl ?_
      refine Rv rfl rfl rfl (U_add rfl rfl (w64e (m := ((s + 1 : Nat) : Int)) (by omega) (by omega) (by omega))) rfl rfl ?_
      refine Rv rfl rfl rfl (U_assign rfl) rfl rfl ?_
      refine Re rfl ?_
      refine thenQ_n ?_
      exact againTo (T' := [(1, .rop [i64 ((n : Nat) : Int), .ros (ks.flatMap lkN) ks.length c] 0), (5, i64 ((cntQ n ks : Nat) : Int)), (7, .out 0 (P ++ [rnkQ n (nxQ n ks) s]).length 1), (8, i64 (((s + 1) : Nat) : Int))]) (H' := [(0, outB ((P ++ [rnkQ n (nxQ n ks) s]).map natsL) 48 (P ++ [rnkQ n (nxQ n ks) s]).length)]) (n := 1) (n - (s + 1)) ⟨s + 1, P ++ [rnkQ n (nxQ n ks) s], (by omega), (by rw [tabK_S, ← hi0_1]), rfl, rfl⟩ (by omega) (mapN [1]) ⟨eD rfl rfl, eD rfl rfl, e_ rfl rfl, eD rfl rfl, trivial⟩ ⟨rO (mapD (fun _ => rfl) _) rfl rfl, trivial⟩ rfl rfl rfl rfl (fun _ h => absurd h (Nat.not_lt_zero _))
  · have hP : P = tabK n ks n := by rw [hi0_1, show s = n by omega]
    refine W_exit rfl ?_
    refine thenQ_x ?_
    refine thenQ_x ?_
    refine blkQ_x rfl ?_
    refine thenQ_n ?_
    refine W_seq rfl ?_
    refine W_reg rfl ?_
    refine Rv rfl rfl rfl (U_move rfl) rfl rfl ?_
    refine Rv rfl rfl rfl (U_move rfl) rfl rfl ?_
    refine Rv rfl rfl rfl (U_assign rfl) rfl rfl ?_
    refine Rv rfl rfl rfl (U_assign rfl) rfl rfl ?_
    refine Rv rfl rfl rfl (U_assign rfl) rfl rfl ?_
    refine Re rfl ?_
    refine thenQ_n ?_
    refine WfrO 0 (P.map natsL) rfl (mapD (fun _ => rfl) _) (T' := [(2, .ros (P.map natsL) P.length none), (3, i64 ((cntQ n ks : Nat) : Int)), (4, .bool true)]) (H' := []) ⟨fO rfl, fD rfl rfl, fD rfl rfl, trivial⟩ trivial ?_
    refine W_ret rfl ?_
    exact retL (rlT rfl (rlT rfl (rlT rfl rl0))) (by first | rfl | (simp only [packA]; rw [hP]; first | done | rfl)) rfl
end Go.Proofs.Ythmibifghihdaaa
end

section
namespace Go.Proofs.Ythmibifghihdaaa
set_option maxRecDepth 20000
open Go.AE
theorem gcd_both {a b c : Nat} (h : a + b = c) : Nat.gcd b c = Nat.gcd a c := by
  subst h
  apply Nat.dvd_antisymm
  · refine Nat.dvd_gcd ?_ (Nat.gcd_dvd_right _ _)
    exact (Nat.dvd_add_left (Nat.gcd_dvd_left b (a + b))).1 (Nat.gcd_dvd_right b (a + b))
  · refine Nat.dvd_gcd ?_ (Nat.gcd_dvd_right _ _)
    exact (Nat.dvd_add_right (Nat.gcd_dvd_left a (a + b))).1 (Nat.gcd_dvd_right a (a + b))
theorem fr_facts {a b c : Nat} (h : a + b = c) (hc : 0 < c) : frD b c = frD a c ∧ frN a c + frN b c = frD a c ∧ 1 ≤ frD a c ∧ frD a c ≤ c ∧ c % frD a c = 0 ∧ ((frN a c = 1 ∧ frD a c = 1) ↔ a = c) ∧ ((frN a c = 0 ∧ frD a c = 1) ↔ a = 0) := by
  have hg := gcd_both h
  have hgp : 0 < Nat.gcd a c := Nat.gcd_pos_of_pos_right a hc
  obtain ⟨a', ha⟩ := Nat.gcd_dvd_left a c
  obtain ⟨c', hc'⟩ := Nat.gcd_dvd_right a c
  have e1 : frN a c = a' := Nat.div_eq_of_eq_mul_right hgp ha
  have e2 : frD a c = c' := Nat.div_eq_of_eq_mul_right hgp hc'
  have hle : a' ≤ c' := by
    refine Nat.le_of_mul_le_mul_left (?_ : Nat.gcd a c * a' ≤ Nat.gcd a c * c') hgp
    rw [← ha, ← hc']; omega
  have hb : b = Nat.gcd a c * (c' - a') := by rw [Nat.mul_sub, ← ha, ← hc']; omega
  have e3 : frN b c = c' - a' := by unfold frN; rw [hg]; exact Nat.div_eq_of_eq_mul_right hgp hb
  have e4 : frD b c = c' := by unfold frD; rw [hg]; exact Nat.div_eq_of_eq_mul_right hgp hc'
  have hc1 : 1 ≤ c' := by
    rcases Nat.eq_zero_or_pos c' with h0 | h0
    · rw [h0] at hc'; simp at hc'; omega
    · exact h0
  have hcc : c' ≤ c := by
    calc c' ≤ Nat.gcd a c * c' := Nat.le_mul_of_pos_left _ hgp
      _ = c := hc'.symm
  rw [e1, e2, e3, e4]
  refine ⟨rfl, by omega, hc1, hcc, ?_, ?_, ?_⟩
  · have : (Nat.gcd a c * c') % c' = 0 := Nat.mul_mod_left _ _
    rwa [← hc'] at this
  · constructor
    · rintro ⟨h1, h2⟩; rw [ha, h1]; conv => rhs; rw [hc', h2]
    · intro h1
      have h2 : Nat.gcd a c = c := by rw [h1, Nat.gcd_self]
      rw [h2] at ha hc'
      have h3 : c' = 1 := Nat.eq_of_mul_eq_mul_left hc (by rw [Nat.mul_one]; exact hc'.symm)
      have h4 : a' = 1 := Nat.eq_of_mul_eq_mul_left hc (by rw [Nat.mul_one, ← ha]; exact h1)
      exact ⟨h4, h3⟩
  · constructor
    · rintro ⟨h1, _⟩; rw [ha, h1, Nat.mul_zero]
    · intro h1
      have h2 : Nat.gcd a c = c := by rw [h1, Nat.gcd_zero_left]
      rw [h2] at ha hc'
      have h3 : c' = 1 := Nat.eq_of_mul_eq_mul_left hc (by rw [Nat.mul_one]; exact hc'.symm)
      have h4 : a' = 0 := Nat.eq_of_mul_eq_mul_left hc (by rw [Nat.mul_zero, ← ha]; exact h1)
      exact ⟨h4, h3⟩
end Go.Proofs.Ythmibifghihdaaa
end

section
namespace Go.Proofs.Ythmibifghihdaaa
set_option maxRecDepth 20000
open Go.AE
theorem summed_a (b : Bk) (c : Option Nat) (hO : Pure Try.prog 47 [bookA b c] (.bool false)) (one two : Nat) (hu1 : one < 256) (hu2 : two < 256) : Pure Try.prog 10 [bookA b c, .int .u8 (one : Nat), .int .u8 (two : Nat)] (.bool true) := by
  refine pure_of_body Try.func10 (c := body Try.f10) rfl (by simp [Try.ntmps10]) fun w0 Φ0 => ?_
  refine W_seq rfl ?_
  refine W_reg rfl ?_
  refine Rv rfl rfl rfl (U_boxF rfl rfl rfl) rfl rfl ?_
  refine Rv rfl rfl rfl (U_assign rfl) rfl rfl ?_
  refine Re rfl ?_
  refine thenQ_n ?_
  refine W_seq rfl ?_
  refine W_seq rfl ?_
  refine W_reg rfl ?_
  refine Rv rfl rfl rfl (U_load2 rfl rfl rfl rfl) rfl rfl ?_
  refine Rv rfl rfl rfl (U_call rfl rfl (hO) rfl) rfl rfl ?_
  refine Rv rfl rfl rfl (U_not rfl) rfl rfl ?_
  refine Rv rfl rfl rfl (U_move rfl) rfl rfl ?_
  refine Rs rfl rfl rfl rfl rfl ?_
  refine Rs rfl rfl rfl rfl rfl ?_
  refine Rs rfl rfl rfl rfl rfl ?_
  refine Rv rfl rfl rfl (U_pick_t rfl rfl) rfl rfl ?_
  refine Re rfl ?_
  refine thenQ_n ?_
  refine Wcond rfl rfl (fun _ => ?_) (fun h => nomatch h)
  refine W_seq rfl ?_
  refine W_reg rfl ?_
  refine Rv rfl rfl rfl (U_call rfl rfl (works_p) rfl) rfl rfl ?_
  refine Rv rfl rfl rfl (U_assign rfl) rfl rfl ?_
  refine Re rfl ?_
  refine thenQ_n ?_
  refine W_ret rfl ?_
  refine thenQ_r ?_
  exact retL (rlT rfl rl0) rfl rfl
theorem summed_b (n : Nat) (ks : List (Nat × Nat)) (c : Option Nat) (hv : VB n ks) (h40 : ks.length ≤ 40) (hO : Pure Try.prog 47 [bknA n ks c] (.bool true)) (hn2 : ¬ 2 ≤ n) (one two : Nat) (hu1 : one < 256) (hu2 : two < 256) : Pure Try.prog 10 [bknA n ks c, .int .u8 (one : Nat), .int .u8 (two : Nat)] (.bool true) := by
  have hv' := hv
  obtain ⟨hn1, hn, hkl, hk⟩ := hv'
  have hk2 := vb_lt hv
  refine pure_of_body Try.func10 (c := body Try.f10) rfl (by simp [Try.ntmps10]) fun w0 Φ0 => ?_
  refine W_seq rfl ?_
  refine W_reg rfl ?_
  refine Rv rfl rfl rfl (U_boxF rfl rfl rfl) rfl rfl ?_
  refine Rv rfl rfl rfl (U_assign rfl) rfl rfl ?_
  refine Re rfl ?_
  refine thenQ_n ?_
  refine W_seq rfl ?_
  refine W_seq rfl ?_
  refine W_reg rfl ?_
  refine Rv rfl rfl rfl (U_load2 rfl rfl rfl rfl) rfl rfl ?_
  refine Rv rfl rfl rfl (U_call rfl rfl (hO) rfl) rfl rfl ?_
  refine Rv rfl rfl rfl (U_not rfl) rfl rfl ?_
  refine Rv rfl rfl rfl (U_move rfl) rfl rfl ?_
  refine Rv rfl rfl rfl (U_fieldAddrR rfl) rfl rfl ?_
  refine Rv rfl rfl rfl (U_load1 rfl rfl rfl) rfl rfl ?_
  refine Rv rfl rfl rfl (OpU.toB (U_lss rfl rfl) (decide_eq_true (by omega))) rfl rfl ?_
  refine Rv rfl rfl rfl (U_pick_f rfl rfl) rfl rfl ?_
  refine Re rfl ?_
  refine thenQ_n ?_
  refine Wcond rfl rfl (fun _ => ?_) (fun h => nomatch h)
  refine W_seq rfl ?_
  refine W_reg rfl ?_
  refine Rv rfl rfl rfl (U_call rfl rfl (works_p) rfl) rfl rfl ?_
  refine Rv rfl rfl rfl (U_assign rfl) rfl rfl ?_
  refine Re rfl ?_
  refine thenQ_n ?_
  refine W_ret rfl ?_
  refine thenQ_r ?_
  exact retL (rlT rfl rl0) rfl rfl
theorem chanceQ_p (n : Nat) (ks : List (Nat × Nat)) (c : Option Nat) (hv : VB n ks) (h40 : ks.length ≤ 40) (ha : Acy n ks) (a d : Nat) (ha2 : a < n) (hd2 : d < n) (had : a ≠ d) : Pure Try.prog 35 [bknA n ks c, i64 (a : Nat), i64 (d : Nat)] (.tup [.agg [i64 ((frN (cntQ n (ks ++ [(a, d)])) (cntQ n ks) : Nat) : Int), i64 ((frD (cntQ n (ks ++ [(a, d)])) (cntQ n ks) : Nat) : Int)], i64 0]) := by
  have hv1 := vb_snoc hv (by omega) ha2 hd2 had
  rcases acy_or n (ks ++ [(a, d)]) with h | ⟨g, hg⟩
  · exact chance_gA n ks c hv h40 ha a d ha2 hd2 had (cnt_acy hv ha) h
  · rw [cnt_cyc hv1 hg]; exact chance_gY n ks c hv h40 ha a d ha2 hd2 had (cnt_acy hv ha) g hg
theorem kindQ_p (n : Nat) (ks : List (Nat × Nat)) (c : Option Nat) (hv : VB n ks) (h40 : ks.length ≤ 40) (ha : Acy n ks) (a d : Nat) (ha2 : a < n) (hd2 : d < n) (had : a ≠ d) : Pure Try.prog 33 [bknA n ks c, i64 (a : Nat), i64 (d : Nat)] (.tup [i64 (kndR n ks a d), i64 0]) := by
  have := kind_g n ks c hv h40 ha a d ha2 hd2 had
  rwa [knd_same hv h40 ha ha2 hd2 had] at this
def stS (n : Nat) (ks : List (Nat × Nat)) (i k : Nat) : Nat := ((List.range k).map fun j => (rnkQ n (nxQ n ks) i).getD j 0).sum
def rkS (n : Nat) (ks : List (Nat × Nat)) (i k : Nat) : Nat := ((List.range k).map fun s => (rnkQ n (nxQ n ks) s).getD i 0).sum
theorem stS_S {n i k : Nat} {ks : List (Nat × Nat)} : stS n ks i (k + 1) = stS n ks i k + (rnkQ n (nxQ n ks) i).getD k 0 := by simp [stS, List.range_succ]
theorem rkS_S {n i k : Nat} {ks : List (Nat × Nat)} : rkS n ks i (k + 1) = rkS n ks i k + (rnkQ n (nxQ n ks) k).getD i 0 := by simp [rkS, List.range_succ]
theorem stS_le {n i : Nat} {ks : List (Nat × Nat)} (hv : VB n ks) (hi : i < n) : ∀ k, k ≤ n → stS n ks i k ≤ k * cntQ n ks
  | 0, _ => by simp [stS]
  | k + 1, h => by
    have := stS_le hv hi k (by omega); have := rnk_le hv hi (show k < n by omega)
    rw [stS_S, Nat.add_mul]; omega
theorem rkS_le {n i : Nat} {ks : List (Nat × Nat)} (hv : VB n ks) (hi : i < n) : ∀ k, k ≤ n → rkS n ks i k ≤ k * cntQ n ks
  | 0, _ => by simp [rkS]
  | k + 1, h => by
    have := rkS_le hv hi k (by omega); have := rnk_le hv (show k < n by omega) hi
    rw [rkS_S, Nat.add_mul]; omega
theorem xy_ne {n x t : Nat} (hx : x < n) (ht : t < n - 1) : x ≠ (x + 1 + t) % n := by
  rcases Nat.lt_or_ge (x + 1 + t) n with h | h
  · rw [Nat.mod_eq_of_lt h]; omega
  · rw [Nat.mod_eq_sub_mod h, Nat.mod_eq_of_lt (by omega)]; omega
theorem knd_2 {n a b : Nat} {ks : List (Nat × Nat)} : kndR n ks a b = 2 ↔ cntQ n (ks ++ [(a, b)]) = cntQ n ks := by
  unfold kndR
  split
  · rename_i h; simp [h]
  · rename_i h; constructor
    · intro h2; omega
    · intro h2; exact absurd h2 h
theorem knd_0 {n a b : Nat} {ks : List (Nat × Nat)} (hp : 0 < cntQ n ks) : kndR n ks a b = 0 ↔ cntQ n (ks ++ [(a, b)]) = 0 := by
  unfold kndR
  split
  · rename_i h; constructor
    · intro h2; omega
    · intro h2; omega
  · rename_i h; constructor
    · intro h2; omega
    · intro h2; omega
theorem tab_at {n i : Nat} {ks : List (Nat × Nat)} (h : i < (tabK n ks n).length) : (tabK n ks n)[i] = rnkQ n (nxQ n ks) i := by simp [tabK]
theorem summed_d (n : Nat) (ks : List (Nat × Nat)) (c : Option Nat) (hv : VB n ks) (h40 : ks.length ≤ 40) (ha : Acy n ks) (hO : Pure Try.prog 47 [bknA n ks c] (.bool true)) (hn2 : 2 ≤ n) (one two : Nat) (hu1 : one < 256) (hu2 : two < 256) : Pure Try.prog 10 [bknA n ks c, .int .u8 (one : Nat), .int .u8 (two : Nat)] (.bool true) := by
  have hv' := hv
  obtain ⟨hn1, hn, hkl, hk⟩ := hv'
  have hk2 := vb_lt hv
  have hcp := cnt_acy hv ha
  have hx : one % n < n := Nat.mod_lt _ (by omega)
  have hy : (one % n + 1 + two % (n - 1)) % n < n := Nat.mod_lt _ (by omega)
  have hty : two % (n - 1) < n - 1 := Nat.mod_lt _ (by omega)
  have hxy : one % n ≠ (one % n + 1 + two % (n - 1)) % n := xy_ne hx hty
  have hcl := cntQ_le hv
  have hvx := vb_snoc hv (by omega) hx hy hxy
  have hvy := vb_snoc hv (by omega) hy hx (Ne.symm hxy)
  have hsp := cnt_split hv hvx hvy
  obtain ⟨f1, f2, f3, f4, f5, f6, f7⟩ := fr_facts hsp hcp
  have htl : (tabK n ks n).length = n := tabK_len
  refine pure_of_body Try.func10 (c := body Try.f10) rfl (by simp [Try.ntmps10]) fun w0 Φ0 => ?_
  refine W_seq rfl ?_
  refine W_reg rfl ?_
  refine Rv rfl rfl rfl (U_boxF rfl rfl rfl) rfl rfl ?_
  refine Rv rfl rfl rfl (U_assign rfl) rfl rfl ?_
  refine Re rfl ?_
  refine thenQ_n ?_
  refine W_seq rfl ?_
  refine W_seq rfl ?_
  refine W_reg rfl ?_
  refine Rv rfl rfl rfl (U_load2 rfl rfl rfl rfl) rfl rfl ?_
  refine Rv rfl rfl rfl (U_call rfl rfl (hO) rfl) rfl rfl ?_
  refine Rv rfl rfl rfl (U_not rfl) rfl rfl ?_
  refine Rv rfl rfl rfl (U_move rfl) rfl rfl ?_
  refine Rv rfl rfl rfl (U_fieldAddrR rfl) rfl rfl ?_
  refine Rv rfl rfl rfl (U_load1 rfl rfl rfl) rfl rfl ?_
  refine Rv rfl rfl rfl (OpU.toB (U_lss rfl rfl) (decide_eq_false (by omega))) rfl rfl ?_
  refine Rv rfl rfl rfl (U_pick_f rfl rfl) rfl rfl ?_
  refine Re rfl ?_
  refine thenQ_n ?_
  refine Wcond rfl rfl (fun h => nomatch h) (fun _ => ?_)
  refine W_skip rfl ?_
  refine thenQ_n ?_
  refine W_seq rfl ?_
  refine W_reg rfl ?_
  refine Rv rfl rfl rfl (U_load2 rfl rfl rfl rfl) rfl rfl ?_
  refine Rv rfl rfl rfl (U_call rfl rfl (table_g n ks c hv h40 ha) rfl) rfl rfl ?_
  refine Rv rfl rfl rfl (U_move rfl) rfl rfl ?_
  refine Rv rfl rfl rfl (U_extract rfl rfl) rfl rfl ?_
  refine Rv rfl rfl rfl (U_extract rfl rfl) rfl rfl ?_
  refine Rv rfl rfl rfl (U_extract rfl rfl) rfl rfl ?_
  refine Rv rfl rfl rfl (U_assign rfl) rfl rfl ?_
  refine Rv rfl rfl rfl (U_assign rfl) rfl rfl ?_
  refine Rv rfl rfl rfl (U_assign rfl) rfl rfl ?_
  refine Re rfl ?_
  refine thenQ_n ?_
  refine W_seq rfl ?_
  refine W_seq rfl ?_
  refine W_reg rfl ?_
  refine Rv rfl rfl rfl (U_move rfl) rfl rfl ?_
  refine Rv rfl rfl rfl (U_not rfl) rfl rfl ?_
  refine Re rfl ?_
  refine thenQ_n ?_
  refine Wcond rfl rfl (fun h => nomatch h) (fun _ => ?_)
  refine W_skip rfl ?_
  refine thenQ_n ?_
  refine W_seq rfl ?_
  refine W_seq rfl ?_
  refine W_reg rfl ?_
  refine Rv rfl rfl rfl (U_assign rfl) rfl rfl ?_
  refine Re rfl ?_
  refine thenQ_n ?_
  refine W_block rfl ?_
  refine LoopTo (T' := [(1, .int .u8 ((one : Nat) : Int)), (2, .int .u8 ((two : Nat) : Int)), (3, .rop [i64 ((n : Nat) : Int), .ros (ks.flatMap lkN) ks.length c] 0), (7, .ros ((tabK n ks n).map natsL) ((tabK n ks n).length) none), (8, i64 ((cntQ n ks : Nat) : Int)), (10, i64 ((0 : Nat) : Int))]) (H' := []) (n := 0) rfl (fun mz_ qz_ => ∃ (i : Nat), i ≤ n ∧ mz_ = n - i ∧ qz_ = ⟨[(1, .int .u8 ((one : Nat) : Int)), (2, .int .u8 ((two : Nat) : Int)), (3, .rop [i64 ((n : Nat) : Int), .ros (ks.flatMap lkN) ks.length c] 0), (7, .ros ((tabK n ks n).map natsL) ((tabK n ks n).length) none), (8, i64 ((cntQ n ks : Nat) : Int)), (10, i64 ((i : Nat) : Int))], [], 0, []⟩) ⟨0, (by omega), rfl, rfl⟩ id ⟨eD rfl rfl, eD rfl rfl, eD rfl rfl, eD rfl rfl, eD rfl rfl, eD rfl rfl, trivial⟩ trivial rfl rfl rfl rfl (fun _ _ => rfl) ?_
  rintro _ _ ⟨i, hi0_0, rfl, rfl⟩
  refine W_seq rfl ?_
  refine W_seq rfl ?_
  refine W_reg rfl ?_
  refine Rv rfl rfl rfl (U_move rfl) rfl rfl ?_
  refine Rv rfl rfl rfl (U_fieldAddrR rfl) rfl rfl ?_
  refine Rv rfl rfl rfl (U_load1 rfl rfl rfl) rfl rfl ?_
  refine Rv rfl rfl rfl (U_lss rfl rfl) rfl rfl ?_
  refine Re rfl ?_
  refine thenQ_n ?_
  refine WcondP rfl rfl (fun hc2 => ?_) (fun hc2 => ?_)
  · have hin : i < n := by omega
    refine W_skip rfl ?_
    refine thenQ_n ?_
    refine W_seq rfl ?_
    refine W_block rfl ?_
    refine W_seq rfl ?_
    refine W_reg rfl ?_
    refine Rv rfl rfl rfl (U_assign rfl) rfl rfl ?_
    refine Rv rfl rfl rfl (U_assign rfl) rfl rfl ?_
    refine Re rfl ?_
    refine thenQ_n ?_
    refine W_seq rfl ?_
    refine W_seq rfl ?_
    refine W_reg rfl ?_
    refine Rv rfl rfl rfl (U_assign rfl) rfl rfl ?_
    refine Re rfl ?_
    refine thenQ_n ?_
    refine W_block rfl ?_
    refine LoopTo (T' := [(1, .int .u8 ((one : Nat) : Int)), (2, .int .u8 ((two : Nat) : Int)), (3, .rop [i64 ((n : Nat) : Int), .ros (ks.flatMap lkN) ks.length c] 0), (7, .ros ((tabK n ks n).map natsL) ((tabK n ks n).length) none), (8, i64 ((cntQ n ks : Nat) : Int)), (10, i64 ((i : Nat) : Int)), (11, i64 ((stS n ks i 0 : Nat) : Int)), (12, i64 ((rkS n ks i 0 : Nat) : Int)), (13, i64 ((0 : Nat) : Int))]) (H' := []) (n := 0) rfl (fun mz_ qz_ => ∃ (k : Nat), k ≤ n ∧ mz_ = n - k ∧ qz_ = ⟨[(1, .int .u8 ((one : Nat) : Int)), (2, .int .u8 ((two : Nat) : Int)), (3, .rop [i64 ((n : Nat) : Int), .ros (ks.flatMap lkN) ks.length c] 0), (7, .ros ((tabK n ks n).map natsL) ((tabK n ks n).length) none), (8, i64 ((cntQ n ks : Nat) : Int)), (10, i64 ((i : Nat) : Int)), (11, i64 ((stS n ks i k : Nat) : Int)), (12, i64 ((rkS n ks i k : Nat) : Int)), (13, i64 ((k : Nat) : Int))], [], 0, []⟩) ⟨0, (by omega), rfl, rfl⟩ id ⟨eD rfl rfl, eD rfl rfl, eD rfl rfl, eD rfl rfl, eD rfl rfl, eD rfl rfl, eD rfl rfl, eD rfl rfl, eD rfl rfl, trivial⟩ trivial rfl rfl rfl rfl (fun _ _ => rfl) ?_
    rintro _ _ ⟨k, hi1_0, rfl, rfl⟩
    have hb1 := stS_le hv hin k (by omega)
    have hb2 := rkS_le hv hin k (by omega)
    have hb3 : k * cntQ n ks ≤ 10 * 3628800 := Nat.mul_le_mul (by omega) hcl
    refine W_seq rfl ?_
    refine W_seq rfl ?_
    refine W_reg rfl ?_
    refine Rv rfl rfl rfl (U_move rfl) rfl rfl ?_
    refine Rv rfl rfl rfl (U_fieldAddrR rfl) rfl rfl ?_
    refine Rv rfl rfl rfl (U_load1 rfl rfl rfl) rfl rfl ?_
    refine Rv rfl rfl rfl (U_lss rfl rfl) rfl rfl ?_
    refine Re rfl ?_
    refine thenQ_n ?_
    refine WcondP rfl rfl (fun hc3 => ?_) (fun hc3 => ?_)
    · have hkn : k < n := by omega
      have hil : i < (tabK n ks n).length := by omega
      have hkl2 : k < (tabK n ks n).length := by omega
      have hli : (tabK n ks n)[i].length = n := by rw [tab_at]; exact rnk_len
      have hlk : (tabK n ks n)[k].length = n := by rw [tab_at]; exact rnk_len
      have hs1 : stS n ks i (k + 1) = stS n ks i k + ((tabK n ks n)[i])[k]'(by omega) := by rw [stS_S, ← tab_at hil, getD_eq (by omega)]
      have hs2 : rkS n ks i (k + 1) = rkS n ks i k + ((tabK n ks n)[k])[i]'(by omega) := by rw [rkS_S, ← tab_at hkl2, getD_eq (by omega)]
      have hb4 := stS_le hv hin (k + 1) (by omega)
      have hb5 := rkS_le hv hin (k + 1) (by omega)
      have hb6 : (k + 1) * cntQ n ks ≤ 10 * 3628800 := Nat.mul_le_mul (by omega) hcl
      refine W_skip rfl ?_
      refine thenQ_n ?_
      refine W_seq rfl ?_
      refine W_block rfl ?_
      refine W_seq rfl ?_
      refine W_reg rfl ?_
      refine Rv rfl rfl rfl (U_move rfl) rfl rfl ?_
      refine Rv rfl rfl rfl (U_move rfl) rfl rfl ?_
      refine Rv rfl rfl rfl (U_move rfl) rfl rfl ?_
      have hx1 : i < (tabK n ks n).length := by omega
      refine Rv rfl rfl rfl (U_indexR (j := i) rfl rfl rfl hx1) rfl rfl ?_
      refine Rv rfl rfl rfl (U_load1 rfl rfl (getM hx1)) rfl rfl ?_
      refine Rv rfl rfl rfl (U_move rfl) rfl rfl ?_
      have hx2 : k < ((tabK n ks n)[i]).length := by omega
      refine Rv rfl rfl rfl (U_indexR (j := k) rfl rfl rfl hx2) rfl rfl ?_
      refine Rv rfl rfl rfl (U_load1 rfl rfl (getM hx2)) rfl rfl ?_
      refine Rv rfl rfl rfl (U_add rfl rfl (w64e (m := ((stS n ks i (k + 1) : Nat) : Int)) (by omega) (by omega) (by omega))) rfl rfl ?_
      refine Rv rfl rfl rfl (U_assign rfl) rfl rfl ?_
      refine Re rfl ?_
      refine thenQ_n ?_
      refine W_reg rfl ?_
      refine Rv rfl rfl rfl (U_move rfl) rfl rfl ?_
      refine Rv rfl rfl rfl (U_move rfl) rfl rfl ?_
      refine Rv rfl rfl rfl (U_move rfl) rfl rfl ?_
      have hx3 : k < (tabK n ks n).length := by omega
      refine Rv rfl rfl rfl (U_indexR (j := k) rfl rfl rfl hx3) rfl rfl ?_
      refine Rv rfl rfl rfl (U_load1 rfl rfl (getM hx3)) rfl rfl ?_
      refine Rv rfl rfl rfl (U_move rfl) rfl rfl ?_
      have hx4 : i < ((tabK n ks n)[k]).length := by omega
      refine Rv rfl rfl rfl (U_indexR (j := i) rfl rfl rfl hx4) rfl rfl ?_
      refine Rv rfl rfl rfl (U_load1 rfl rfl (getM hx4)) rfl rfl ?_
      refine Rv rfl rfl rfl (U_add rfl rfl (w64e (m := ((rkS n ks i (k + 1) : Nat) : Int)) (by omega) (by omega) (by omega))) rfl rfl ?_
      refine Rv rfl rfl rfl (U_assign rfl) rfl rfl ?_
      refine Re rfl ?_
      refine blkQ_n ?_
      refine thenQ_n ?_
      refine W_reg rfl ?_
      refine Rv rfl rfl rfl (U_move rfl) rfl rfl ?_
      refine Rv rfl rfl rfl (U_add rfl rfl (w64e (m := ((k + 1 : Nat) : Int)) (by omega) (by omega) (by omega))) rfl rfl ?_
      refine Rv rfl rfl rfl (U_assign rfl) rfl rfl ?_
      refine Re rfl ?_
      refine thenQ_n ?_
      exact againTo (T' := [(1, .int .u8 ((one : Nat) : Int)), (2, .int .u8 ((two : Nat) : Int)), (3, .rop [i64 ((n : Nat) : Int), .ros (ks.flatMap lkN) ks.length c] 0), (7, .ros ((tabK n ks n).map natsL) ((tabK n ks n).length) none), (8, i64 ((cntQ n ks : Nat) : Int)), (10, i64 ((i : Nat) : Int)), (11, i64 ((stS n ks i (k + 1) : Nat) : Int)), (12, i64 ((rkS n ks i (k + 1) : Nat) : Int)), (13, i64 (((k + 1) : Nat) : Int))]) (H' := []) (n := 0) (n - (k + 1)) ⟨k + 1, (by omega), rfl, rfl⟩ (by omega) id ⟨eD rfl rfl, eD rfl rfl, eD rfl rfl, eD rfl rfl, eD rfl rfl, eD rfl rfl, eD rfl rfl, eD rfl rfl, eD rfl rfl, trivial⟩ trivial rfl rfl rfl rfl (fun _ _ => rfl)
    · have hkn : k = n := by omega
      have hne1 : ¬ ((stS n ks i k : Nat) : Int) ≠ ((cntQ n ks : Nat) : Int) := by rw [hkn, stS, sum_star hv hin]; simp
      have hne2 : ¬ ((rkS n ks i k : Nat) : Int) ≠ ((cntQ n ks : Nat) : Int) := by rw [hkn, rkS, sum_rank hv hin]; simp
      refine W_exit rfl ?_
      refine thenQ_x ?_
      refine thenQ_x ?_
      refine blkQ_x rfl ?_
      refine thenQ_n ?_
      refine W_seq rfl ?_
      refine W_reg rfl ?_
      refine Rv rfl rfl rfl (U_move rfl) rfl rfl ?_
      refine Rv rfl rfl rfl (U_move rfl) rfl rfl ?_
      refine Rv rfl rfl rfl (OpU.toB (U_neq rfl rfl) (decide_eq_false hne1)) rfl rfl ?_
      refine Rv rfl rfl rfl (U_move rfl) rfl rfl ?_
      refine Rv rfl rfl rfl (U_move rfl) rfl rfl ?_
      refine Rv rfl rfl rfl (U_move rfl) rfl rfl ?_
      refine Rv rfl rfl rfl (OpU.toB (U_neq rfl rfl) (decide_eq_false hne2)) rfl rfl ?_
      refine Rv rfl rfl rfl (U_pick_f rfl rfl) rfl rfl ?_
      refine Re rfl ?_
      refine thenQ_n ?_
      refine Wcond rfl rfl (fun h => nomatch h) (fun _ => ?_)
      refine W_skip rfl ?_
      refine blkQ_n ?_
      refine thenQ_n ?_
      refine W_reg rfl ?_
      refine Rv rfl rfl rfl (U_move rfl) rfl rfl ?_
      refine Rv rfl rfl rfl (U_add rfl rfl (w64e (m := ((i + 1 : Nat) : Int)) (by omega) (by omega) (by omega))) rfl rfl ?_
      refine Rv rfl rfl rfl (U_assign rfl) rfl rfl ?_
      refine Re rfl ?_
      refine thenQ_n ?_
      exact againTo (T' := [(1, .int .u8 ((one : Nat) : Int)), (2, .int .u8 ((two : Nat) : Int)), (3, .rop [i64 ((n : Nat) : Int), .ros (ks.flatMap lkN) ks.length c] 0), (7, .ros ((tabK n ks n).map natsL) ((tabK n ks n).length) none), (8, i64 ((cntQ n ks : Nat) : Int)), (10, i64 (((i + 1) : Nat) : Int))]) (H' := []) (n := 0) (n - (i + 1)) ⟨i + 1, (by omega), rfl, rfl⟩ (by omega) id ⟨eD rfl rfl, eD rfl rfl, eD rfl rfl, eD rfl rfl, eD rfl rfl, eD rfl rfl, trivial⟩ trivial rfl rfl rfl rfl (fun _ _ => rfl)
  · refine W_exit rfl ?_
    refine thenQ_x ?_
    refine thenQ_x ?_
    refine blkQ_x rfl ?_
    refine thenQ_n ?_
    refine W_seq rfl ?_
    refine W_reg rfl ?_
    refine Rv rfl rfl rfl (U_move rfl) rfl rfl ?_
    refine Rv rfl rfl rfl (U_convInt (by rfl) rfl (wr_i64 (by omega) (by omega))) rfl rfl ?_
    refine Rv rfl rfl rfl (U_fieldAddrR rfl) rfl rfl ?_
    refine Rv rfl rfl rfl (U_load1 rfl rfl rfl) rfl rfl ?_
    refine Rv rfl rfl rfl (U_rem (c := ((one % n : Nat) : Int)) rfl rfl (by omega) (tmodN _ _)) rfl rfl ?_
    refine Rv rfl rfl rfl (U_assign rfl) rfl rfl ?_
    refine Re rfl ?_
    refine thenQ_n ?_
    refine W_seq rfl ?_
    refine Wdraw rfl (by kernel_rfl) (by kernel_rfl) ?_
    refine Dv rfl rfl rfl (U_move rfl) rfl rfl ?_
    refine Dv rfl rfl rfl (U_add rfl rfl (w64e (m := ((one % n + 1 : Nat) : Int)) (by omega) (by omega) (by omega))) rfl rfl ?_
    refine Dv rfl rfl rfl (U_move rfl) rfl rfl ?_
    refine Dv rfl rfl rfl (U_convInt (by rfl) rfl (wr_i64 (by omega) (by omega))) rfl rfl ?_
    refine Dv rfl rfl rfl (U_fieldAddrR rfl) rfl rfl ?_
    refine Dv rfl rfl rfl (U_load1 rfl rfl rfl) rfl rfl ?_
    refine Dv rfl rfl rfl (U_sub rfl rfl (w64e (m := ((n - 1 : Nat) : Int)) (by omega) (by omega) (by omega))) rfl rfl ?_
    refine Dv rfl rfl rfl (U_rem (c := ((two % (n - 1) : Nat) : Int)) rfl rfl (by omega) (tmodN _ _)) rfl rfl ?_
    refine Dv rfl rfl rfl (U_add rfl rfl (w64e (m := ((one % n + 1 + two % (n - 1) : Nat) : Int)) (by omega) (by omega) (by omega))) rfl rfl ?_
    refine Dv rfl rfl rfl (U_fieldAddrR rfl) rfl rfl ?_
    refine Dv rfl rfl rfl (U_load1 rfl rfl rfl) rfl rfl ?_
    refine Dv rfl rfl rfl (U_rem (c := (((one % n + 1 + two % (n - 1)) % n : Nat) : Int)) rfl rfl (by omega) (tmodN _ _)) rfl rfl ?_
    refine Dv rfl rfl rfl (U_assign rfl) rfl rfl ?_
    refine Dr.nil rfl ?_
    refine thenQ_n ?_
    refine W_seq rfl ?_
    refine W_reg rfl ?_
    refine Rv rfl rfl rfl (U_load2 rfl rfl rfl rfl) rfl rfl ?_
    refine Rv rfl rfl rfl (U_move rfl) rfl rfl ?_
    refine Rv rfl rfl rfl (U_move rfl) rfl rfl ?_
    refine Rv rfl rfl rfl (U_call rfl rfl (chanceQ_p n ks c hv h40 ha (one % n) ((one % n + 1 + two % (n - 1)) % n) (by assumption) (by assumption) (by first | assumption | exact Ne.symm hxy)) rfl) rfl rfl ?_
    refine Rv rfl rfl rfl (U_move rfl) rfl rfl ?_
    refine Rv rfl rfl rfl (U_extract rfl rfl) rfl rfl ?_
    refine Rv rfl rfl rfl (U_extract rfl rfl) rfl rfl ?_
    refine Ra rfl rfl rfl (U_alloc) rfl rfl rfl ?_
    refine Rn rfl rfl rfl (U_storeAll rfl rfl rfl rfl rfl rfl) rfl ?_
    refine Rv rfl rfl rfl (U_assign rfl) rfl rfl ?_
    refine Re rfl ?_
    refine thenQ_n ?_
    refine WfrN 0 rfl rfl (T' := [(3, .rop [i64 ((n : Nat) : Int), .ros (ks.flatMap lkN) ks.length c] 0), (8, i64 ((cntQ n ks : Nat) : Int)), (14, i64 ((one % n : Nat) : Int)), (15, i64 (((one % n + 1 + two % (n - 1)) % n : Nat) : Int)), (16, .rop [i64 ((frN (cntQ n (ks ++ [((one % n), ((one % n + 1 + two % (n - 1)) % n))])) (cntQ n ks) : Nat) : Int), i64 ((frD (cntQ n (ks ++ [((one % n), ((one % n + 1 + two % (n - 1)) % n))])) (cntQ n ks) : Nat) : Int)] 0), (17, i64 0)]) (H' := []) ⟨⟨_, rfl, rfl⟩, ⟨_, rfl, rfl⟩, ⟨_, rfl, rfl⟩, ⟨_, rfl, rfl⟩, ⟨_, rfl, rfl⟩, ⟨_, rfl, rfl⟩, trivial⟩ trivial ?_
    refine W_seq rfl ?_
    refine W_reg rfl ?_
    refine Rv rfl rfl rfl (U_load2 rfl rfl rfl rfl) rfl rfl ?_
    refine Rv rfl rfl rfl (U_move rfl) rfl rfl ?_
    refine Rv rfl rfl rfl (U_move rfl) rfl rfl ?_
    refine Rv rfl rfl rfl (U_call rfl rfl (chanceQ_p n ks c hv h40 ha ((one % n + 1 + two % (n - 1)) % n) (one % n) (by assumption) (by assumption) (by first | assumption | exact Ne.symm hxy)) rfl) rfl rfl ?_
    refine Rv rfl rfl rfl (U_move rfl) rfl rfl ?_
    refine Rv rfl rfl rfl (U_extract rfl rfl) rfl rfl ?_
    refine Rv rfl rfl rfl (U_extract rfl rfl) rfl rfl ?_
    refine Ra rfl rfl rfl (U_alloc) rfl rfl rfl ?_
    refine Rn rfl rfl rfl (U_storeAll rfl rfl rfl rfl rfl rfl) rfl ?_
    refine Rv rfl rfl rfl (U_assign rfl) rfl rfl ?_
    refine Re rfl ?_
    refine thenQ_n ?_
    refine WfrN 1 rfl rfl (T' := [(3, .rop [i64 ((n : Nat) : Int), .ros (ks.flatMap lkN) ks.length c] 0), (8, i64 ((cntQ n ks : Nat) : Int)), (14, i64 ((one % n : Nat) : Int)), (15, i64 (((one % n + 1 + two % (n - 1)) % n : Nat) : Int)), (16, .rop [i64 ((frN (cntQ n (ks ++ [((one % n), ((one % n + 1 + two % (n - 1)) % n))])) (cntQ n ks) : Nat) : Int), i64 ((frD (cntQ n (ks ++ [((one % n), ((one % n + 1 + two % (n - 1)) % n))])) (cntQ n ks) : Nat) : Int)] 0), (17, i64 0), (18, .rop [i64 ((frN (cntQ n (ks ++ [(((one % n + 1 + two % (n - 1)) % n), (one % n))])) (cntQ n ks) : Nat) : Int), i64 ((frD (cntQ n (ks ++ [(((one % n + 1 + two % (n - 1)) % n), (one % n))])) (cntQ n ks) : Nat) : Int)] 0), (19, i64 0)]) (H' := []) ⟨⟨_, rfl, rfl⟩, ⟨_, rfl, rfl⟩, ⟨_, rfl, rfl⟩, ⟨_, rfl, rfl⟩, ⟨_, rfl, rfl⟩, ⟨_, rfl, rfl⟩, ⟨_, rfl, rfl⟩, ⟨_, rfl, rfl⟩, trivial⟩ trivial ?_
    refine W_seq rfl ?_
    refine W_reg rfl ?_
    refine Rv rfl rfl rfl (U_load2 rfl rfl rfl rfl) rfl rfl ?_
    refine Rv rfl rfl rfl (U_move rfl) rfl rfl ?_
    refine Rv rfl rfl rfl (U_move rfl) rfl rfl ?_
    refine Rv rfl rfl rfl (U_call rfl rfl (kindQ_p n ks c hv h40 ha (one % n) ((one % n + 1 + two % (n - 1)) % n) (by assumption) (by assumption) (by assumption)) rfl) rfl rfl ?_
    refine Rv rfl rfl rfl (U_move rfl) rfl rfl ?_
    refine Rv rfl rfl rfl (U_extract rfl rfl) rfl rfl ?_
    refine Rv rfl rfl rfl (U_extract rfl rfl) rfl rfl ?_
    refine Rv rfl rfl rfl (U_assign rfl) rfl rfl ?_
    refine Rv rfl rfl rfl (U_assign rfl) rfl rfl ?_
    refine Re rfl ?_
    refine thenQ_n ?_
    refine W_seq rfl ?_
    refine W_seq rfl ?_
    refine Wjoin ⟨[(16, .rop [i64 ((frN (cntQ n (ks ++ [((one % n), ((one % n + 1 + two % (n - 1)) % n))])) (cntQ n ks) : Nat) : Int), i64 ((frD (cntQ n (ks ++ [((one % n), ((one % n + 1 + two % (n - 1)) % n))])) (cntQ n ks) : Nat) : Int)] 0), (20, i64 (kndR n ks (one % n) ((one % n + 1 + two % (n - 1)) % n))), (171, .bool ((decide (((frD (cntQ n (ks ++ [((one % n), ((one % n + 1 + two % (n - 1)) % n))])) (cntQ n ks) : Nat) : Int) < 1)) || ((decide (((cntQ n ks : Nat) : Int) < ((frD (cntQ n (ks ++ [((one % n), ((one % n + 1 + two % (n - 1)) % n))])) (cntQ n ks) : Nat) : Int))) || ((decide (((frN (cntQ n (ks ++ [((one % n), ((one % n + 1 + two % (n - 1)) % n))])) (cntQ n ks) : Nat) : Int) < 0)) || ((decide (((frD (cntQ n (ks ++ [((one % n), ((one % n + 1 + two % (n - 1)) % n))])) (cntQ n ks) : Nat) : Int) < ((frN (cntQ n (ks ++ [((one % n), ((one % n + 1 + two % (n - 1)) % n))])) (cntQ n ks) : Nat) : Int))) || ((decide (((frN (cntQ n (ks ++ [((one % n), ((one % n + 1 + two % (n - 1)) % n))])) (cntQ n ks) + frN (cntQ n (ks ++ [(((one % n + 1 + two % (n - 1)) % n), (one % n))])) (cntQ n ks) : Nat) : Int) ≠ ((frD (cntQ n (ks ++ [((one % n), ((one % n + 1 + two % (n - 1)) % n))])) (cntQ n ks) : Nat) : Int))) || ((decide (((frD (cntQ n (ks ++ [(((one % n + 1 + two % (n - 1)) % n), (one % n))])) (cntQ n ks) : Nat) : Int) ≠ ((frD (cntQ n (ks ++ [((one % n), ((one % n + 1 + two % (n - 1)) % n))])) (cntQ n ks) : Nat) : Int))) || (decide ((((cntQ n ks) % (frD (cntQ n (ks ++ [((one % n), ((one % n + 1 + two % (n - 1)) % n))])) (cntQ n ks)) : Nat) : Int) ≠ 0)))))))))], [], 0, []⟩ ?_ ?_
    · refine W_reg rfl ?_
      refine Rv rfl rfl rfl (U_move rfl) rfl rfl ?_
      refine Rv rfl rfl rfl (U_neq rfl rfl) rfl rfl ?_
      refine Rv rfl rfl rfl (U_move rfl) rfl rfl ?_
      refine Rv rfl rfl rfl (U_move rfl) rfl rfl ?_
      refine Rv rfl rfl rfl (U_neq rfl rfl) rfl rfl ?_
      refine Rv rfl rfl rfl (U_pick_f rfl rfl) rfl rfl ?_
      refine Rv rfl rfl rfl (U_move rfl) rfl rfl ?_
      refine Rv rfl rfl rfl (U_move rfl) rfl rfl ?_
      refine Rv rfl rfl rfl (U_neq rfl rfl) rfl rfl ?_
      refine Rv rfl rfl rfl (U_pick_f rfl rfl) rfl rfl ?_
      refine Rv rfl rfl rfl (U_move rfl) rfl rfl ?_
      refine Rv rfl rfl rfl (U_fieldAddrR rfl) rfl rfl ?_
      refine Rv rfl rfl rfl (U_load1 rfl rfl rfl) rfl rfl ?_
      refine Rv rfl rfl rfl (U_lss rfl rfl) rfl rfl ?_
      refine Rv rfl rfl rfl (U_pick_f rfl rfl) rfl rfl ?_
      refine Rv rfl rfl rfl (U_move rfl) rfl rfl ?_
      refine Rsplit (t := 130) rfl (fun hg5 => ?_) (fun hg5 => ?_)
      · rw [hg5]
        have hg5' : ((frD (cntQ n (ks ++ [((one % n), ((one % n + 1 + two % (n - 1)) % n))])) (cntQ n ks) : Nat) : Int) < 1 := of_decide_eq_true hg5
        refine Rs rfl rfl rfl rfl rfl ?_
        refine Rs rfl rfl rfl rfl rfl ?_
        refine Rs rfl rfl rfl rfl rfl ?_
        refine Rs rfl rfl rfl rfl rfl ?_
        refine Rv rfl rfl rfl (U_pick_t rfl rfl) rfl rfl ?_
        refine Rv rfl rfl rfl (U_move rfl) rfl rfl ?_
        refine Rs rfl rfl rfl rfl rfl ?_
        refine Rs rfl rfl rfl rfl rfl ?_
        refine Rs rfl rfl rfl rfl rfl ?_
        refine Rv rfl rfl rfl (U_pick_t rfl rfl) rfl rfl ?_
        refine Rv rfl rfl rfl (U_move rfl) rfl rfl ?_
        refine Rs rfl rfl rfl rfl rfl ?_
        refine Rs rfl rfl rfl rfl rfl ?_
        refine Rs rfl rfl rfl rfl rfl ?_
        refine Rs rfl rfl rfl rfl rfl ?_
        refine Rs rfl rfl rfl rfl rfl ?_
        refine Rv rfl rfl rfl (U_pick_t rfl rfl) rfl rfl ?_
        refine Rv rfl rfl rfl (U_move rfl) rfl rfl ?_
        refine Rs rfl rfl rfl rfl rfl ?_
        refine Rs rfl rfl rfl rfl rfl ?_
        refine Rs rfl rfl rfl rfl rfl ?_
        refine Rs rfl rfl rfl rfl rfl ?_
        refine Rs rfl rfl rfl rfl rfl ?_
        refine Rs rfl rfl rfl rfl rfl ?_
        refine Rs rfl rfl rfl rfl rfl ?_
        refine Rs rfl rfl rfl rfl rfl ?_
        refine Rv rfl rfl rfl (U_pick_t rfl rfl) rfl rfl ?_
        refine Rv rfl rfl rfl (U_move rfl) rfl rfl ?_
        refine Rs rfl rfl rfl rfl rfl ?_
        refine Rs rfl rfl rfl rfl rfl ?_
        refine Rs rfl rfl rfl rfl rfl ?_
        refine Rs rfl rfl rfl rfl rfl ?_
        refine Rs rfl rfl rfl rfl rfl ?_
        refine Rv rfl rfl rfl (U_pick_t rfl rfl) rfl rfl ?_
        refine Rv rfl rfl rfl (U_move rfl) rfl rfl ?_
        refine Rs rfl rfl rfl rfl rfl ?_
        refine Rs rfl rfl rfl rfl rfl ?_
        refine Rs rfl rfl rfl rfl rfl ?_
        refine Rs rfl rfl rfl rfl rfl ?_
        refine Rs rfl rfl rfl rfl rfl ?_
        refine Rv rfl rfl rfl (U_pick_t rfl rfl) rfl rfl ?_
        refine Re rfl ?_
        exact joinTo id ⟨eD rfl rfl, eD rfl rfl, eD rfl rfl, trivial⟩ trivial rfl rfl rfl rfl (fun _ _ => rfl)
      · rw [hg5]
        have hg5' : ¬ (((frD (cntQ n (ks ++ [((one % n), ((one % n + 1 + two % (n - 1)) % n))])) (cntQ n ks) : Nat) : Int) < 1) := of_decide_eq_false hg5
        refine Rv rfl rfl rfl (U_fieldAddrR rfl) rfl rfl ?_
        refine Rv rfl rfl rfl (U_load1 rfl rfl rfl) rfl rfl ?_
        refine Rv rfl rfl rfl (U_move rfl) rfl rfl ?_
        refine Rv rfl rfl rfl (U_gtr rfl rfl) rfl rfl ?_
        refine Rv rfl rfl rfl (U_pick_f rfl rfl) rfl rfl ?_
        refine Rv rfl rfl rfl (U_move rfl) rfl rfl ?_
        refine Rsplit (t := 136) rfl (fun hg6 => ?_) (fun hg6 => ?_)
        · rw [hg6]
          have hg6' : ((cntQ n ks : Nat) : Int) < ((frD (cntQ n (ks ++ [((one % n), ((one % n + 1 + two % (n - 1)) % n))])) (cntQ n ks) : Nat) : Int) := of_decide_eq_true hg6
          refine Rs rfl rfl rfl rfl rfl ?_
          refine Rs rfl rfl rfl rfl rfl ?_
          refine Rs rfl rfl rfl rfl rfl ?_
          refine Rv rfl rfl rfl (U_pick_t rfl rfl) rfl rfl ?_
          refine Rv rfl rfl rfl (U_move rfl) rfl rfl ?_
          refine Rs rfl rfl rfl rfl rfl ?_
          refine Rs rfl rfl rfl rfl rfl ?_
          refine Rs rfl rfl rfl rfl rfl ?_
          refine Rs rfl rfl rfl rfl rfl ?_
          refine Rs rfl rfl rfl rfl rfl ?_
          refine Rv rfl rfl rfl (U_pick_t rfl rfl) rfl rfl ?_
          refine Rv rfl rfl rfl (U_move rfl) rfl rfl ?_
          refine Rs rfl rfl rfl rfl rfl ?_
          refine Rs rfl rfl rfl rfl rfl ?_
          refine Rs rfl rfl rfl rfl rfl ?_
          refine Rs rfl rfl rfl rfl rfl ?_
          refine Rs rfl rfl rfl rfl rfl ?_
          refine Rs rfl rfl rfl rfl rfl ?_
          refine Rs rfl rfl rfl rfl rfl ?_
          refine Rs rfl rfl rfl rfl rfl ?_
          refine Rv rfl rfl rfl (U_pick_t rfl rfl) rfl rfl ?_
          refine Rv rfl rfl rfl (U_move rfl) rfl rfl ?_
          refine Rs rfl rfl rfl rfl rfl ?_
          refine Rs rfl rfl rfl rfl rfl ?_
          refine Rs rfl rfl rfl rfl rfl ?_
          refine Rs rfl rfl rfl rfl rfl ?_
          refine Rs rfl rfl rfl rfl rfl ?_
          refine Rv rfl rfl rfl (U_pick_t rfl rfl) rfl rfl ?_
          refine Rv rfl rfl rfl (U_move rfl) rfl rfl ?_
          refine Rs rfl rfl rfl rfl rfl ?_
          refine Rs rfl rfl rfl rfl rfl ?_
          refine Rs rfl rfl rfl rfl rfl ?_
          refine Rs rfl rfl rfl rfl rfl ?_
          refine Rs rfl rfl rfl rfl rfl ?_
          refine Rv rfl rfl rfl (U_pick_t rfl rfl) rfl rfl ?_
          refine Re rfl ?_
          exact joinTo id ⟨eD rfl rfl, eD rfl rfl, eD rfl rfl, trivial⟩ trivial rfl rfl rfl rfl (fun _ _ => rfl)
        · rw [hg6]
          have hg6' : ¬ (((cntQ n ks : Nat) : Int) < ((frD (cntQ n (ks ++ [((one % n), ((one % n + 1 + two % (n - 1)) % n))])) (cntQ n ks) : Nat) : Int)) := of_decide_eq_false hg6
          refine Rv rfl rfl rfl (U_fieldAddrR rfl) rfl rfl ?_
          refine Rv rfl rfl rfl (U_load1 rfl rfl rfl) rfl rfl ?_
          refine Rv rfl rfl rfl (U_lss rfl rfl) rfl rfl ?_
          refine Rv rfl rfl rfl (U_pick_f rfl rfl) rfl rfl ?_
          refine Rv rfl rfl rfl (U_move rfl) rfl rfl ?_
          refine Rsplit (t := 141) rfl (fun hg7 => ?_) (fun hg7 => ?_)
          · rw [hg7]
            have hg7' : ((frN (cntQ n (ks ++ [((one % n), ((one % n + 1 + two % (n - 1)) % n))])) (cntQ n ks) : Nat) : Int) < 0 := of_decide_eq_true hg7
            refine Rs rfl rfl rfl rfl rfl ?_
            refine Rs rfl rfl rfl rfl rfl ?_
            refine Rs rfl rfl rfl rfl rfl ?_
            refine Rs rfl rfl rfl rfl rfl ?_
            refine Rs rfl rfl rfl rfl rfl ?_
            refine Rv rfl rfl rfl (U_pick_t rfl rfl) rfl rfl ?_
            refine Rv rfl rfl rfl (U_move rfl) rfl rfl ?_
            refine Rs rfl rfl rfl rfl rfl ?_
            refine Rs rfl rfl rfl rfl rfl ?_
            refine Rs rfl rfl rfl rfl rfl ?_
            refine Rs rfl rfl rfl rfl rfl ?_
            refine Rs rfl rfl rfl rfl rfl ?_
            refine Rs rfl rfl rfl rfl rfl ?_
            refine Rs rfl rfl rfl rfl rfl ?_
            refine Rs rfl rfl rfl rfl rfl ?_
            refine Rv rfl rfl rfl (U_pick_t rfl rfl) rfl rfl ?_
            refine Rv rfl rfl rfl (U_move rfl) rfl rfl ?_
            refine Rs rfl rfl rfl rfl rfl ?_
            refine Rs rfl rfl rfl rfl rfl ?_
            refine Rs rfl rfl rfl rfl rfl ?_
            refine Rs rfl rfl rfl rfl rfl ?_
            refine Rs rfl rfl rfl rfl rfl ?_
            refine Rv rfl rfl rfl (U_pick_t rfl rfl) rfl rfl ?_
            refine Rv rfl rfl rfl (U_move rfl) rfl rfl ?_
            refine Rs rfl rfl rfl rfl rfl ?_
            refine Rs rfl rfl rfl rfl rfl ?_
            refine Rs rfl rfl rfl rfl rfl ?_
            refine Rs rfl rfl rfl rfl rfl ?_
            refine Rs rfl rfl rfl rfl rfl ?_
            refine Rv rfl rfl rfl (U_pick_t rfl rfl) rfl rfl ?_
            refine Re rfl ?_
            exact joinTo id ⟨eD rfl rfl, eD rfl rfl, eD rfl rfl, trivial⟩ trivial rfl rfl rfl rfl (fun _ _ => rfl)
          · rw [hg7]
            have hg7' : ¬ (((frN (cntQ n (ks ++ [((one % n), ((one % n + 1 + two % (n - 1)) % n))])) (cntQ n ks) : Nat) : Int) < 0) := of_decide_eq_false hg7
            refine Rv rfl rfl rfl (U_fieldAddrR rfl) rfl rfl ?_
            refine Rv rfl rfl rfl (U_load1 rfl rfl rfl) rfl rfl ?_
            refine Rv rfl rfl rfl (U_fieldAddrR rfl) rfl rfl ?_
            refine Rv rfl rfl rfl (U_load1 rfl rfl rfl) rfl rfl ?_
            refine Rv rfl rfl rfl (U_gtr rfl rfl) rfl rfl ?_
            refine Rv rfl rfl rfl (U_pick_f rfl rfl) rfl rfl ?_
            refine Rv rfl rfl rfl (U_move rfl) rfl rfl ?_
            refine Rsplit (t := 148) rfl (fun hg8 => ?_) (fun hg8 => ?_)
            · rw [hg8]
              have hg8' : ((frD (cntQ n (ks ++ [((one % n), ((one % n + 1 + two % (n - 1)) % n))])) (cntQ n ks) : Nat) : Int) < ((frN (cntQ n (ks ++ [((one % n), ((one % n + 1 + two % (n - 1)) % n))])) (cntQ n ks) : Nat) : Int) := of_decide_eq_true hg8
              refine Rs rfl rfl rfl rfl rfl ?_
              refine Rs rfl rfl rfl rfl rfl ?_
              refine Rs rfl rfl rfl rfl rfl ?_
              refine Rs rfl rfl rfl rfl rfl ?_
              refine Rs rfl rfl rfl rfl rfl ?_
              refine Rs rfl rfl rfl rfl rfl ?_
              refine Rs rfl rfl rfl rfl rfl ?_
              refine Rs rfl rfl rfl rfl rfl ?_
              refine Rv rfl rfl rfl (U_pick_t rfl rfl) rfl rfl ?_
              refine Rv rfl rfl rfl (U_move rfl) rfl rfl ?_
              refine Rs rfl rfl rfl rfl rfl ?_
              refine Rs rfl rfl rfl rfl rfl ?_
              refine Rs rfl rfl rfl rfl rfl ?_
              refine Rs rfl rfl rfl rfl rfl ?_
              refine Rs rfl rfl rfl rfl rfl ?_
              refine Rv rfl rfl rfl (U_pick_t rfl rfl) rfl rfl ?_
              refine Rv rfl rfl rfl (U_move rfl) rfl rfl ?_
              refine Rs rfl rfl rfl rfl rfl ?_
              refine Rs rfl rfl rfl rfl rfl ?_
              refine Rs rfl rfl rfl rfl rfl ?_
              refine Rs rfl rfl rfl rfl rfl ?_
              refine Rs rfl rfl rfl rfl rfl ?_
              refine Rv rfl rfl rfl (U_pick_t rfl rfl) rfl rfl ?_
              refine Re rfl ?_
              exact joinTo id ⟨eD rfl rfl, eD rfl rfl, eD rfl rfl, trivial⟩ trivial rfl rfl rfl rfl (fun _ _ => rfl)
            · rw [hg8]
              have hg8' : ¬ (((frD (cntQ n (ks ++ [((one % n), ((one % n + 1 + two % (n - 1)) % n))])) (cntQ n ks) : Nat) : Int) < ((frN (cntQ n (ks ++ [((one % n), ((one % n + 1 + two % (n - 1)) % n))])) (cntQ n ks) : Nat) : Int)) := of_decide_eq_false hg8
              refine Rv rfl rfl rfl (U_fieldAddrR rfl) rfl rfl ?_
              refine Rv rfl rfl rfl (U_load1 rfl rfl rfl) rfl rfl ?_
              refine Rv rfl rfl rfl (U_fieldAddrR rfl) rfl rfl ?_
              refine Rv rfl rfl rfl (U_load1 rfl rfl rfl) rfl rfl ?_
              refine Rv rfl rfl rfl (U_add rfl rfl (w64e (m := ((frN (cntQ n (ks ++ [((one % n), ((one % n + 1 + two % (n - 1)) % n))])) (cntQ n ks) + frN (cntQ n (ks ++ [(((one % n + 1 + two % (n - 1)) % n), (one % n))])) (cntQ n ks) : Nat) : Int)) (by omega) (by omega) (by omega))) rfl rfl ?_
              refine Rv rfl rfl rfl (U_fieldAddrR rfl) rfl rfl ?_
              refine Rv rfl rfl rfl (U_load1 rfl rfl rfl) rfl rfl ?_
              refine Rv rfl rfl rfl (U_neq rfl rfl) rfl rfl ?_
              refine Rv rfl rfl rfl (U_pick_f rfl rfl) rfl rfl ?_
              refine Rv rfl rfl rfl (U_move rfl) rfl rfl ?_
              refine Rsplit (t := 158) rfl (fun hg9 => ?_) (fun hg9 => ?_)
              · rw [hg9]
                have hg9' : ((frN (cntQ n (ks ++ [((one % n), ((one % n + 1 + two % (n - 1)) % n))])) (cntQ n ks) + frN (cntQ n (ks ++ [(((one % n + 1 + two % (n - 1)) % n), (one % n))])) (cntQ n ks) : Nat) : Int) ≠ ((frD (cntQ n (ks ++ [((one % n), ((one % n + 1 + two % (n - 1)) % n))])) (cntQ n ks) : Nat) : Int) := of_decide_eq_true hg9
                refine Rs rfl rfl rfl rfl rfl ?_
                refine Rs rfl rfl rfl rfl rfl ?_
                refine Rs rfl rfl rfl rfl rfl ?_
                refine Rs rfl rfl rfl rfl rfl ?_
                refine Rs rfl rfl rfl rfl rfl ?_
                refine Rv rfl rfl rfl (U_pick_t rfl rfl) rfl rfl ?_
                refine Rv rfl rfl rfl (U_move rfl) rfl rfl ?_
                refine Rs rfl rfl rfl rfl rfl ?_
                refine Rs rfl rfl rfl rfl rfl ?_
                refine Rs rfl rfl rfl rfl rfl ?_
                refine Rs rfl rfl rfl rfl rfl ?_
                refine Rs rfl rfl rfl rfl rfl ?_
                refine Rv rfl rfl rfl (U_pick_t rfl rfl) rfl rfl ?_
                refine Re rfl ?_
                exact joinTo id ⟨eD rfl rfl, eD rfl rfl, eD rfl rfl, trivial⟩ trivial rfl rfl rfl rfl (fun _ _ => rfl)
              · rw [hg9]
                have hg9' : ¬ (((frN (cntQ n (ks ++ [((one % n), ((one % n + 1 + two % (n - 1)) % n))])) (cntQ n ks) + frN (cntQ n (ks ++ [(((one % n + 1 + two % (n - 1)) % n), (one % n))])) (cntQ n ks) : Nat) : Int) ≠ ((frD (cntQ n (ks ++ [((one % n), ((one % n + 1 + two % (n - 1)) % n))])) (cntQ n ks) : Nat) : Int)) := of_decide_eq_false hg9
                refine Rv rfl rfl rfl (U_fieldAddrR rfl) rfl rfl ?_
                refine Rv rfl rfl rfl (U_load1 rfl rfl rfl) rfl rfl ?_
                refine Rv rfl rfl rfl (U_fieldAddrR rfl) rfl rfl ?_
                refine Rv rfl rfl rfl (U_load1 rfl rfl rfl) rfl rfl ?_
                refine Rv rfl rfl rfl (U_neq rfl rfl) rfl rfl ?_
                refine Rv rfl rfl rfl (U_pick_f rfl rfl) rfl rfl ?_
                refine Rv rfl rfl rfl (U_move rfl) rfl rfl ?_
                refine Rsplit (t := 165) rfl (fun hg10 => ?_) (fun hg10 => ?_)
                · rw [hg10]
                  have hg10' : ((frD (cntQ n (ks ++ [(((one % n + 1 + two % (n - 1)) % n), (one % n))])) (cntQ n ks) : Nat) : Int) ≠ ((frD (cntQ n (ks ++ [((one % n), ((one % n + 1 + two % (n - 1)) % n))])) (cntQ n ks) : Nat) : Int) := of_decide_eq_true hg10
                  refine Rs rfl rfl rfl rfl rfl ?_
                  refine Rs rfl rfl rfl rfl rfl ?_
                  refine Rs rfl rfl rfl rfl rfl ?_
                  refine Rs rfl rfl rfl rfl rfl ?_
                  refine Rs rfl rfl rfl rfl rfl ?_
                  refine Rv rfl rfl rfl (U_pick_t rfl rfl) rfl rfl ?_
                  refine Re rfl ?_
                  exact joinTo id ⟨eD rfl rfl, eD rfl rfl, eD rfl rfl, trivial⟩ trivial rfl rfl rfl rfl (fun _ _ => rfl)
                · rw [hg10]
                  have hg10' : ¬ (((frD (cntQ n (ks ++ [(((one % n + 1 + two % (n - 1)) % n), (one % n))])) (cntQ n ks) : Nat) : Int) ≠ ((frD (cntQ n (ks ++ [((one % n), ((one % n + 1 + two % (n - 1)) % n))])) (cntQ n ks) : Nat) : Int)) := of_decide_eq_false hg10
                  refine Rv rfl rfl rfl (U_move rfl) rfl rfl ?_
                  refine Rv rfl rfl rfl (U_fieldAddrR rfl) rfl rfl ?_
                  refine Rv rfl rfl rfl (U_load1 rfl rfl rfl) rfl rfl ?_
                  refine Rv rfl rfl rfl (U_rem (c := (((cntQ n ks) % (frD (cntQ n (ks ++ [((one % n), ((one % n + 1 + two % (n - 1)) % n))])) (cntQ n ks)) : Nat) : Int)) rfl rfl (by omega) (tmodN _ _)) rfl rfl ?_
                  refine Rv rfl rfl rfl (U_neq rfl rfl) rfl rfl ?_
                  refine Rv rfl rfl rfl (U_pick_f rfl rfl) rfl rfl ?_
                  refine Re rfl ?_
                  exact joinTo id ⟨eD rfl rfl, eD rfl rfl, eD rfl rfl, trivial⟩ trivial rfl rfl rfl rfl (fun _ _ => rfl)
    refine thenQ_n ?_
    refine Wcond rfl rfl (fun hc5 => absurd hc5 (by simp only [Bool.or_eq_true, decide_eq_true_eq, f1, f5]; omega)) (fun hc5 => ?_)
    refine W_skip rfl ?_
    refine thenQ_n ?_
    refine W_seq rfl ?_
    refine Wjoin ⟨[(6, .bool ((decide ((decide ((kndR n ks (one % n) ((one % n + 1 + two % (n - 1)) % n)) = 2)) = (decide (((frN (cntQ n (ks ++ [((one % n), ((one % n + 1 + two % (n - 1)) % n))])) (cntQ n ks) : Nat) : Int) = 1 ∧ ((frD (cntQ n (ks ++ [((one % n), ((one % n + 1 + two % (n - 1)) % n))])) (cntQ n ks) : Nat) : Int) = 1)))) && (decide ((decide ((kndR n ks (one % n) ((one % n + 1 + two % (n - 1)) % n)) = 0)) = (decide (((frN (cntQ n (ks ++ [((one % n), ((one % n + 1 + two % (n - 1)) % n))])) (cntQ n ks) : Nat) : Int) = 0 ∧ ((frD (cntQ n (ks ++ [((one % n), ((one % n + 1 + two % (n - 1)) % n))])) (cntQ n ks) : Nat) : Int) = 1))))))], [], 0, []⟩ ?_ ?_
    · refine Wdraw rfl (by kernel_rfl) (by kernel_rfl) ?_
      refine Dv rfl rfl rfl (U_move rfl) rfl rfl ?_
      refine Dv rfl rfl rfl (U_eql rfl rfl) rfl rfl ?_
      refine Dv rfl rfl rfl (U_load2 rfl rfl rfl rfl) rfl rfl ?_
      refine Dv rfl rfl rfl (U_call rfl rfl (by_p 1 1) rfl) rfl rfl ?_
      refine Dv rfl rfl rfl (U_eqlA (p := ((frN (cntQ n (ks ++ [((one % n), ((one % n + 1 + two % (n - 1)) % n))])) (cntQ n ks) : Nat) : Int) = 1 ∧ ((frD (cntQ n (ks ++ [((one % n), ((one % n + 1 + two % (n - 1)) % n))])) (cntQ n ks) : Nat) : Int) = 1) rfl rfl rfl rfl rfl rfl (by simp)) rfl rfl ?_
      refine Dv rfl rfl rfl (U_eqlB rfl rfl) rfl rfl ?_
      refine Dv rfl rfl rfl (U_move rfl) rfl rfl ?_
      refine Dsplit (t := 178) rfl (fun hg11 => ?_) (fun hg11 => ?_)
      · rw [hg11]
        have hg11' : (decide ((kndR n ks (one % n) ((one % n + 1 + two % (n - 1)) % n)) = 2)) = (decide (((frN (cntQ n (ks ++ [((one % n), ((one % n + 1 + two % (n - 1)) % n))])) (cntQ n ks) : Nat) : Int) = 1 ∧ ((frD (cntQ n (ks ++ [((one % n), ((one % n + 1 + two % (n - 1)) % n))])) (cntQ n ks) : Nat) : Int) = 1)) := of_decide_eq_true hg11
        refine Dv rfl rfl rfl (U_move rfl) rfl rfl ?_
        refine Dv rfl rfl rfl (U_eql rfl rfl) rfl rfl ?_
        refine Dv rfl rfl rfl (U_load2 rfl rfl rfl rfl) rfl rfl ?_
        refine Dv rfl rfl rfl (U_call rfl rfl (by_p 0 1) rfl) rfl rfl ?_
        refine Dv rfl rfl rfl (U_eqlA (p := ((frN (cntQ n (ks ++ [((one % n), ((one % n + 1 + two % (n - 1)) % n))])) (cntQ n ks) : Nat) : Int) = 0 ∧ ((frD (cntQ n (ks ++ [((one % n), ((one % n + 1 + two % (n - 1)) % n))])) (cntQ n ks) : Nat) : Int) = 1) rfl rfl rfl rfl rfl rfl (by simp)) rfl rfl ?_
        refine Dv rfl rfl rfl (U_eqlB rfl rfl) rfl rfl ?_
        refine Dv rfl rfl rfl (U_pick_t rfl rfl) rfl rfl ?_
        refine Dv rfl rfl rfl (U_move rfl) rfl rfl ?_
        refine Dsplit (t := 186) rfl (fun hg12 => ?_) (fun hg12 => ?_)
        · rw [hg12]
          have hg12' : (decide ((kndR n ks (one % n) ((one % n + 1 + two % (n - 1)) % n)) = 0)) = (decide (((frN (cntQ n (ks ++ [((one % n), ((one % n + 1 + two % (n - 1)) % n))])) (cntQ n ks) : Nat) : Int) = 0 ∧ ((frD (cntQ n (ks ++ [((one % n), ((one % n + 1 + two % (n - 1)) % n))])) (cntQ n ks) : Nat) : Int) = 1)) := of_decide_eq_true hg12
          refine Dv rfl rfl rfl (U_call rfl rfl (works_p) rfl) rfl rfl ?_
          refine Dv rfl rfl rfl (U_pick_t rfl rfl) rfl rfl ?_
          refine Dv rfl rfl rfl (U_assign rfl) rfl rfl ?_
          refine Dr.nil rfl ?_
          exact joinTo id ⟨eD rfl rfl, trivial⟩ trivial rfl rfl rfl rfl (fun _ _ => rfl)
        · rw [hg12]
          have hg12' : ¬ ((decide ((kndR n ks (one % n) ((one % n + 1 + two % (n - 1)) % n)) = 0)) = (decide (((frN (cntQ n (ks ++ [((one % n), ((one % n + 1 + two % (n - 1)) % n))])) (cntQ n ks) : Nat) : Int) = 0 ∧ ((frD (cntQ n (ks ++ [((one % n), ((one % n + 1 + two % (n - 1)) % n))])) (cntQ n ks) : Nat) : Int) = 1))) := of_decide_eq_false hg12
          refine Ds rfl rfl rfl rfl rfl ?_
          refine Dv rfl rfl rfl (U_pick_f rfl rfl) rfl rfl ?_
          refine Dv rfl rfl rfl (U_assign rfl) rfl rfl ?_
          refine Dr.nil rfl ?_
          exact joinTo id ⟨eD rfl rfl, trivial⟩ trivial rfl rfl rfl rfl (fun _ _ => rfl)
      · rw [hg11]
        have hg11' : ¬ ((decide ((kndR n ks (one % n) ((one % n + 1 + two % (n - 1)) % n)) = 2)) = (decide (((frN (cntQ n (ks ++ [((one % n), ((one % n + 1 + two % (n - 1)) % n))])) (cntQ n ks) : Nat) : Int) = 1 ∧ ((frD (cntQ n (ks ++ [((one % n), ((one % n + 1 + two % (n - 1)) % n))])) (cntQ n ks) : Nat) : Int) = 1))) := of_decide_eq_false hg11
        refine Ds rfl rfl rfl rfl rfl ?_
        refine Ds rfl rfl rfl rfl rfl ?_
        refine Ds rfl rfl rfl rfl rfl ?_
        refine Ds rfl rfl rfl rfl rfl ?_
        refine Ds rfl rfl rfl rfl rfl ?_
        refine Ds rfl rfl rfl rfl rfl ?_
        refine Dv rfl rfl rfl (U_pick_f rfl rfl) rfl rfl ?_
        refine Dv rfl rfl rfl (U_move rfl) rfl rfl ?_
        refine Ds rfl rfl rfl rfl rfl ?_
        refine Dv rfl rfl rfl (U_pick_f rfl rfl) rfl rfl ?_
        refine Dv rfl rfl rfl (U_assign rfl) rfl rfl ?_
        refine Dr.nil rfl ?_
        exact joinTo id ⟨eD rfl rfl, trivial⟩ trivial rfl rfl rfl rfl (fun _ _ => rfl)
    refine thenQ_n ?_
    refine W_ret rfl ?_
    exact retL (rlT rfl rl0) (by first | rfl | (simp only [packA]; congr 1; rw [decide_eq_true (decide_eq_decide.2 (knd_2.trans (f6.symm.trans (by omega)))), decide_eq_true (decide_eq_decide.2 ((knd_0 hcp).trans (f7.symm.trans (by omega))))]; rfl; first | done | rfl)) rfl
theorem rankSummed_p (b : Bk) (c : Option Nat) (one two : Nat) (hu1 : one < 256) (hu2 : two < 256) : Pure Try.prog 10 [bookA b c, .int .u8 (one : Nat), .int .u8 (two : Nat)] (.bool true) := by
  cases hf : fneB b with
  | false => exact summed_a b c (ordered_F b c hf) one two hu1 hu2
  | true =>
    have h1 := fine_T b c hf
    obtain ⟨n, ks, rfl, hv, h40⟩ := chkB_ok (fne_ok hf)
    rcases acy_or n ks with ha | ⟨g, hg⟩
    · rw [bk_eq] at h1 ⊢
      by_cases hn2 : 2 ≤ n
      · exact summed_d n ks c hv h40 ha (ordered_A n ks c hv h1 ha) hn2 one two hu1 hu2
      · exact summed_b n ks c hv h40 (ordered_A n ks c hv h1 ha) hn2 one two hu1 hu2
    · refine summed_a _ c ?_ one two hu1 hu2
      rw [bk_eq] at h1 ⊢
      exact ordered_Y n ks c hv h1 g hg
end Go.Proofs.Ythmibifghihdaaa
end
