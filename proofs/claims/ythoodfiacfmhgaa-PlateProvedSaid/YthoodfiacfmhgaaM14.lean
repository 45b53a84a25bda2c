import Derived.Test.YthoodfiacfmhgaaM4
import Derived.Test.YthoodfiacfmhgaaM13
set_option linter.all false
section
/- Abstract states, thirty-fifth part: tests whose answer is known. -/
namespace Go.AE
theorem OpU.toB {C : Ctx} {o : Oper} {T : AT} {H : AH} {nx nx' : Nat} {v v' : Bool} {ups : AH} (h : OpU C o T H nx (.bool v) ups nx') (e : v = v') : OpU C o T H nx (.bool v') ups nx' := e ▸ h
end Go.AE
end

section
/- Counts: plain laws. -/
namespace Go.Proofs.Ythoodfiacfmhgaa
set_option maxRecDepth 20000
open Go.AE
/-- The circles of small plates. -/
noncomputable def cirT : List (List Nat) := [[1, 1, 1, 1, 1, 1, 1, 1], [4, 1, 2, 1, 2, 3, 2, 3], [9, 3, 5, 3, 6, 6, 6, 6], [16, 4, 8, 4, 8, 10, 8, 10], [25, 7, 13, 7, 15, 15, 15, 15]]
theorem cirT_all : ([1, 2, 3, 4, 5].all fun N => (List.range 8).all fun m => decide (cirQ N m = (cirT.getD (N - 1) []).getD m 0)) = true := by decide +kernel
noncomputable def sumT (N a : Nat) (G : List Int) : Nat := G.foldr (fun m s => a ^ ((cirT.getD (N - 1) []).getD m.toNat 0) + s) 0
theorem mem5 {N : Nat} (h : 1 ≤ N ∧ N ≤ 5) : N ∈ [1, 2, 3, 4, 5] := by
  have : N = 1 ∨ N = 2 ∨ N = 3 ∨ N = 4 ∨ N = 5 := by omega
  rcases this with rfl | rfl | rfl | rfl | rfl <;> simp
theorem mem4 {N : Nat} (h : 1 ≤ N ∧ N ≤ 4) : N ∈ [1, 2, 3, 4] := by
  have : N = 1 ∨ N = 2 ∨ N = 3 ∨ N = 4 := by omega
  rcases this with rfl | rfl | rfl | rfl <;> simp
theorem cirT_eq {N : Nat} (h : 1 ≤ N ∧ N ≤ 5) {m : Int} (hm : 0 ≤ m ∧ m < 8) : cirQ N m = (cirT.getD (N - 1) []).getD m.toNat 0 := by
  have := List.all_eq_true.1 (List.all_eq_true.1 cirT_all N (mem5 h)) m.toNat (List.mem_range.2 (by omega))
  simp only [decide_eq_true_eq] at this
  rwa [Int.toNat_of_nonneg hm.1] at this
theorem sumT_eq {N a : Nat} (h : 1 ≤ N ∧ N ≤ 5) : ∀ {G : List Int}, (∀ m ∈ G, 0 ≤ m ∧ m < 8) → sumI N a G = ((sumT N a G : Nat) : Int)
  | [], _ => rfl
  | m :: G, hG => by
    have ih := sumT_eq (a := a) h (G := G) fun x hx => hG x (List.mem_cons_of_mem _ hx)
    rw [sumI, ih, cirT_eq h (hG m (by simp))]
    show _ = (((a ^ _ + sumT N a G : Nat)) : Int)
    push_cast; rfl
theorem cnt_all : (Gs.all fun G => [1, 2, 3, 4, 5].all fun N => [1, 2, 3, 4].all fun a => Nat.beq (sumT N a G % G.length) 0 && Nat.ble 1 (sumT N a G / G.length) && Nat.ble (sumT N a G / G.length) 1125899906842624 && (!Nat.beq a 1 || Nat.beq (sumT N a G / G.length) 1)) = true := by decide +kernel
/-- How many plates are different. -/
noncomputable def cntT (N a : Nat) (G : List Int) : Nat := sumT N a G / G.length
theorem cnt_facts {G : List Int} (hG : G ∈ Gs) {N a : Nat} (h : 1 ≤ N ∧ N ≤ 5) (ha : 1 ≤ a ∧ a ≤ 4) : cntT N a G * G.length = sumT N a G ∧ 1 ≤ cntT N a G ∧ cntT N a G ≤ 1125899906842624 ∧ (a = 1 → cntT N a G = 1) := by
  have h1 := List.all_eq_true.1 (List.all_eq_true.1 (List.all_eq_true.1 cnt_all G hG) N (mem5 h)) a (mem4 ha)
  simp only [Bool.and_eq_true, Bool.or_eq_true, Bool.not_eq_true'] at h1
  obtain ⟨⟨⟨e1, e2⟩, e3⟩, e4⟩ := h1
  refine ⟨Nat.div_mul_cancel (Nat.dvd_of_mod_eq_zero (Nat.eq_of_beq_eq_true e1)), Nat.le_of_ble_eq_true e2, Nat.le_of_ble_eq_true e3, fun e => ?_⟩
  subst e
  rcases e4 with e4 | e4
  · cases e4
  · exact Nat.eq_of_beq_eq_true e4
theorem cntG {N a : Nat} (h : 1 ≤ N ∧ N ≤ 5) (ha : 1 ≤ a ∧ a ≤ 4) {ks : List Int} (hok : okK 0 ks = true) : cntR (N : Nat) (a : Nat) ks = ((cntT N a (reachedQ ks) : Nat) : Int) ∧ cntE (N : Nat) (a : Nat) ks = 0 := by
  have e : cntE (N : Nat) (a : Nat) ks = 0 := by
    rw [cntE, if_neg (not_not_intro (by omega)), if_neg (not_not_intro (chkK_0 hok)), if_neg (by omega)]
  refine ⟨?_, e⟩
  rw [cntR, if_pos e, Int.toNat_natCast, sumT_eq h fun m hm => reached_in hm, cntT]
  norm_cast
theorem countG_p (N a : Nat) (h : 1 ≤ N ∧ N ≤ 5) (ha : 1 ≤ a ∧ a ≤ 4) (ks : List Int) (c : Option Nat) (hok : okK 0 ks = true) : Pure Try.prog 47 [i64 ((N : Nat) : Int), i64 ((a : Nat) : Int), intsA ks c] (.tup [i64 ((cntT N a (reachedQ ks) : Nat) : Int), i64 0]) := by
  have k := count_p (N : Nat) (a : Nat) ks c (by have := okK_len hok; omega)
  rwa [(cntG h ha hok).1, (cntG h ha hok).2] at k
theorem circlesG_p (N : Nat) (h : 1 ≤ N ∧ N ≤ 5) (m : Int) (hm : 0 ≤ m ∧ m < 8) : Pure Try.prog 31 [i64 ((N : Nat) : Int), i64 m] (.tup [i64 ((cirQ N m : Nat) : Int), i64 0]) := by
  have k := circlesA_p (N : Nat) m
  have e : ciE (N : Nat) m = 0 := by rw [ciE, if_neg (not_not_intro (by omega)), if_pos (isMoT hm)]
  rwa [ciR, e, if_pos rfl, Int.toNat_natCast] at k
theorem cirT_pos : ([1, 2, 3, 4, 5].all fun N => (List.range 8).all fun m => Nat.ble 1 ((cirT.getD (N - 1) []).getD m 0)) = true := by decide +kernel
theorem cir_pos {N : Nat} (h : 1 ≤ N ∧ N ≤ 5) {m : Int} (hm : 0 ≤ m ∧ m < 8) : 1 ≤ cirQ N m := by
  rw [cirT_eq h hm]
  exact Nat.le_of_ble_eq_true (List.all_eq_true.1 (List.all_eq_true.1 cirT_pos N (mem5 h)) m.toNat (List.mem_range.2 (by omega)))
end Go.Proofs.Ythoodfiacfmhgaa
end

section
/- Plates that are counted. -/
namespace Go.Proofs.Ythoodfiacfmhgaa
set_option maxRecDepth 20000
open Go.AE
theorem plateCounted_p (x y b : Nat) (hx8 : x < 256) (hy8 : y < 256) (hb8 : b < 256) : Pure Try.prog 13 [.int .u8 (x : Nat), .int .u8 (y : Nat), .int .u8 (b : Nat)] (.bool true) := by
  have hok := kds_ok b
  obtain ⟨hr0, hr8⟩ := reached_len (ks := kdsQ b)
  have hG := reach_G hok
  have hn5 : 1 ≤ 1 + x % 5 ∧ 1 + x % 5 ≤ 5 := by omega
  have ha4 : 1 ≤ 1 + y % 4 ∧ 1 + y % 4 ≤ 4 := by omega
  have haI : 1 ≤ ((1 + y % 4 : Nat) : Int) ∧ ((1 + y % 4 : Nat) : Int) ≤ 4 := by omega
  obtain ⟨f1, f2, f3, f4⟩ := cnt_facts hG hn5 ha4
  have fs := sumT_eq (a := 1 + y % 4) hn5 (G := reachedQ (kdsQ b)) fun m hm => reached_in hm
  have hcl : ((cntT (1 + x % 5) (1 + y % 4) (reachedQ (kdsQ b)) : Nat) : Int) * (((reachedQ (kdsQ b)).length : Nat) : Int) = sumI (1 + x % 5) ((1 + y % 4 : Nat) : Int) (reachedQ (kdsQ b)) := by rw [fs, ← f1]; push_cast; rfl
  have hsq : (1 + x % 5) * (1 + x % 5) ≤ 25 := Nat.mul_le_mul hn5.2 hn5.2
  refine pure_of_body Try.func13 (c := body Try.f13) rfl (by simp [Try.ntmps13]) fun w0 Φ0 => ?_
  refine W_seq rfl ?_
  refine W_reg rfl ?_
  refine Rv rfl rfl rfl (U_assign rfl) rfl rfl ?_
  refine Re rfl ?_
  refine thenQ_n ?_
  refine W_seq rfl ?_
  refine W_reg rfl ?_
  refine Rv rfl rfl rfl (U_move rfl) rfl rfl ?_
  refine Rv rfl rfl rfl (U_convInt (by rfl) rfl (wr_i64 (by omega) (by omega))) rfl rfl ?_
  refine Rv rfl rfl rfl (U_rem (c := ((x % 5 : Nat) : Int)) rfl rfl (by omega) (tmodN _ _)) rfl rfl ?_
  refine Rv rfl rfl rfl (U_add rfl rfl (w64e (m := ((1 + x % 5 : Nat) : Int)) (by omega) (by omega) (by omega))) rfl rfl ?_
  refine Rv rfl rfl rfl (U_move rfl) rfl rfl ?_
  refine Rv rfl rfl rfl (U_convInt (by rfl) rfl (wr_i64 (by omega) (by omega))) rfl rfl ?_
  refine Rv rfl rfl rfl (U_rem (c := ((y % 4 : Nat) : Int)) rfl rfl (by omega) (tmodN _ _)) rfl rfl ?_
  refine Rv rfl rfl rfl (U_add rfl rfl (w64e (m := ((1 + y % 4 : Nat) : Int)) (by omega) (by omega) (by omega))) rfl rfl ?_
  refine Rv rfl rfl rfl (U_assign rfl) rfl rfl ?_
  refine Rv rfl rfl rfl (U_assign rfl) rfl rfl ?_
  refine Re rfl ?_
  refine thenQ_n ?_
  refine W_seq rfl ?_
  refine W_reg rfl ?_
  refine Rv rfl rfl rfl (U_move rfl) rfl rfl ?_
  refine Rv rfl rfl rfl (U_call rfl rfl (kinds_p b (by first | assumption | omega)) rfl) rfl rfl ?_
  refine Rv rfl rfl rfl (U_assign rfl) rfl rfl ?_
  refine Re rfl ?_
  refine thenQ_n ?_
  refine W_seq rfl ?_
  refine W_reg rfl ?_
  refine Rv rfl rfl rfl (U_move rfl) rfl rfl ?_
  refine Rv rfl rfl rfl (U_call rfl rfl (reachedG_p (kdsQ b) none (by assumption)) rfl) rfl rfl ?_
  refine Rv rfl rfl rfl (U_move rfl) rfl rfl ?_
  refine Rv rfl rfl rfl (U_extract rfl rfl) rfl rfl ?_
  refine Rv rfl rfl rfl (U_extract rfl rfl) rfl rfl ?_
  refine Rv rfl rfl rfl (U_assign rfl) rfl rfl ?_
  refine Rv rfl rfl rfl (U_assign rfl) rfl rfl ?_
  refine Re rfl ?_
  refine thenQ_n ?_
  refine W_seq rfl ?_
  refine W_reg rfl ?_
  refine Rv rfl rfl rfl (U_move rfl) rfl rfl ?_
  refine Rv rfl rfl rfl (U_move rfl) rfl rfl ?_
  refine Rv rfl rfl rfl (U_move rfl) rfl rfl ?_
  refine Rv rfl rfl rfl (U_call rfl rfl (countG_p (1 + x % 5) (1 + y % 4) (by omega) (by omega) (kdsQ b) none (by assumption)) rfl) rfl rfl ?_
  refine Rv rfl rfl rfl (U_move rfl) rfl rfl ?_
  refine Rv rfl rfl rfl (U_extract rfl rfl) rfl rfl ?_
  refine Rv rfl rfl rfl (U_extract rfl rfl) rfl rfl ?_
  refine Rv rfl rfl rfl (U_assign rfl) rfl rfl ?_
  refine Rv rfl rfl rfl (U_assign rfl) rfl rfl ?_
  refine Re rfl ?_
  refine thenQ_n ?_
  refine W_seq rfl ?_
  refine W_seq rfl ?_
  refine Wjoin ⟨[(7, i64 ((1 + x % 5 : Nat) : Int)), (8, i64 ((1 + y % 4 : Nat) : Int)), (10, .ros ((reachedQ (kdsQ b)).map i64) ((reachedQ (kdsQ b)).length) none), (12, i64 ((cntT (1 + x % 5) (1 + y % 4) (reachedQ (kdsQ b)) : Nat) : Int)), (63, .bool false)], [], 0, []⟩ ?_ ?_
  · refine W_reg rfl ?_
    refine Rv rfl rfl rfl (U_move rfl) rfl rfl ?_
    refine Rv rfl rfl rfl (U_not rfl) rfl rfl ?_
    refine Rv rfl rfl rfl (U_move rfl) rfl rfl ?_
    refine Rv rfl rfl rfl (U_move rfl) rfl rfl ?_
    refine Rv rfl rfl rfl (U_neq rfl rfl) rfl rfl ?_
    refine Rv rfl rfl rfl (U_pick_f rfl rfl) rfl rfl ?_
    refine Rv rfl rfl rfl (U_move rfl) rfl rfl ?_
    refine Rv rfl rfl rfl (U_move rfl) rfl rfl ?_
    refine Rv rfl rfl rfl (OpU.toB (U_lss rfl rfl) (decide_eq_false (by omega))) rfl rfl ?_
    refine Rv rfl rfl rfl (U_pick_f rfl rfl) rfl rfl ?_
    refine Rv rfl rfl rfl (U_move rfl) rfl rfl ?_
    refine Rv rfl rfl rfl (U_move rfl) rfl rfl ?_
    refine Rv rfl rfl rfl (OpU.toB (U_gtr rfl rfl) (decide_eq_false (by omega))) rfl rfl ?_
    refine Rv rfl rfl rfl (U_pick_f rfl rfl) rfl rfl ?_
    refine Rv rfl rfl rfl (U_move rfl) rfl rfl ?_
    refine Rv rfl rfl rfl (U_move rfl) rfl rfl ?_
    refine Rv rfl rfl rfl (U_eql rfl rfl) rfl rfl ?_
    refine Rv rfl rfl rfl (U_move rfl) rfl rfl ?_
    refine Rsplit (t := 59) rfl (fun hg1 => ?_) (fun hg1 => ?_)
    · rw [hg1]
      have hg1' : ((1 + y % 4 : Nat) : Int) = 1 := of_decide_eq_true hg1
      refine Rv rfl rfl rfl (U_move rfl) rfl rfl ?_
      refine Rv rfl rfl rfl (OpU.toB (U_neq rfl rfl) (decide_eq_false (by have := f4 (by omega); omega))) rfl rfl ?_
      refine Rv rfl rfl rfl (U_pick_t rfl rfl) rfl rfl ?_
      refine Rv rfl rfl rfl (U_pick_f rfl rfl) rfl rfl ?_
      refine Re rfl ?_
      exact joinTo id ⟨eD rfl rfl, eD rfl rfl, eD rfl rfl, eD rfl rfl, eD rfl rfl, trivial⟩ trivial rfl rfl rfl rfl (fun _ _ => rfl)
    · rw [hg1]
      have hg1' : ¬ (((1 + y % 4 : Nat) : Int) = 1) := of_decide_eq_false hg1
      refine Rs rfl rfl rfl rfl rfl ?_
      refine Rs rfl rfl rfl rfl rfl ?_
      refine Rv rfl rfl rfl (U_pick_f rfl rfl) rfl rfl ?_
      refine Rv rfl rfl rfl (U_pick_f rfl rfl) rfl rfl ?_
      refine Re rfl ?_
      exact joinTo id ⟨eD rfl rfl, eD rfl rfl, eD rfl rfl, eD rfl rfl, eD rfl rfl, trivial⟩ trivial rfl rfl rfl rfl (fun _ _ => rfl)
  refine thenQ_n ?_
  refine Wcond rfl rfl (fun h => nomatch h) (fun _ => ?_)
  refine W_skip rfl ?_
  refine thenQ_n ?_
  refine W_seq rfl ?_
  refine W_reg rfl ?_
  refine Rv rfl rfl rfl (U_assign rfl) rfl rfl ?_
  refine Re rfl ?_
  refine thenQ_n ?_
  refine W_seq rfl ?_
  refine W_seq rfl ?_
  refine W_reg rfl ?_
  refine Rv rfl rfl rfl (U_assign rfl) rfl rfl ?_
  refine Re rfl ?_
  refine thenQ_n ?_
  refine W_block rfl ?_
  refine LoopTo (T' := [(7, i64 ((1 + x % 5 : Nat) : Int)), (8, i64 ((1 + y % 4 : Nat) : Int)), (10, .ros ((reachedQ (kdsQ b)).map i64) ((reachedQ (kdsQ b)).length) none), (12, i64 ((cntT (1 + x % 5) (1 + y % 4) (reachedQ (kdsQ b)) : Nat) : Int)), (14, i64 0), (15, i64 ((0 : Nat) : Int))]) (H' := []) (n := 0) rfl (fun mz_ qz_ => ∃ (k : Nat) (s : Int), k ≤ (reachedQ (kdsQ b)).length ∧ s = sumI (1 + x % 5) ((1 + y % 4 : Nat) : Int) ((reachedQ (kdsQ b)).take k) ∧ (0 ≤ s ∧ s ≤ k * 1125899906842624) ∧ mz_ = (reachedQ (kdsQ b)).length - k ∧ qz_ = ⟨[(7, i64 ((1 + x % 5 : Nat) : Int)), (8, i64 ((1 + y % 4 : Nat) : Int)), (10, .ros ((reachedQ (kdsQ b)).map i64) ((reachedQ (kdsQ b)).length) none), (12, i64 ((cntT (1 + x % 5) (1 + y % 4) (reachedQ (kdsQ b)) : Nat) : Int)), (14, i64 s), (15, i64 ((k : Nat) : Int))], [], 0, []⟩) ⟨0, 0, (by omega), rfl, (by omega), rfl, rfl⟩ id ⟨eD rfl rfl, eD rfl rfl, eD rfl rfl, eD rfl rfl, eD rfl rfl, eD rfl rfl, trivial⟩ trivial rfl rfl rfl rfl (fun _ _ => rfl) ?_
  rintro _ _ ⟨k, s, hi0_0, hi0_1, hi0_2, rfl, rfl⟩
  refine W_seq rfl ?_
  refine W_seq rfl ?_
  refine W_reg rfl ?_
  refine Rv rfl rfl rfl (U_move rfl) rfl rfl ?_
  refine Rv rfl rfl rfl (U_move rfl) rfl rfl ?_
  refine Rv rfl rfl rfl (U_lenOf rfl len_ros) rfl rfl ?_
  refine Rv rfl rfl rfl (U_lss rfl rfl) rfl rfl ?_
  refine Re rfl ?_
  refine thenQ_n ?_
  refine WcondP rfl rfl (fun hc1 => ?_) (fun hc1 => ?_)
  · have hck : k < (reachedQ (kdsQ b)).length := by omega
    have hkk := reached_in (List.getElem_mem hck)
    have hcb : cirQ (1 + x % 5) (reachedQ (kdsQ b))[k] ≤ 25 := Nat.le_trans cirQ_le hsq
    have hcp := cir_pos hn5 hkk
    have hcs := cirQ_le (N := 1 + x % 5) (m := (reachedQ (kdsQ b))[k])
    refine W_skip rfl ?_
    refine thenQ_n ?_
    refine W_seq rfl ?_
    refine W_block rfl ?_
    refine W_seq rfl ?_
    refine W_reg rfl ?_
    refine Rv rfl rfl rfl (U_move rfl) rfl rfl ?_
    refine Rv rfl rfl rfl (U_move rfl) rfl rfl ?_
    refine Rv rfl rfl rfl (U_move rfl) rfl rfl ?_
    have hx2 : k < (reachedQ (kdsQ b)).length := by omega
    refine Rv rfl rfl rfl (U_indexR (j := k) rfl rfl rfl hx2) rfl rfl ?_
    refine Rv rfl rfl rfl (U_load1 rfl rfl (getM hx2)) rfl rfl ?_
    refine Rv rfl rfl rfl (U_call rfl rfl (circlesG_p (1 + x % 5) (by omega) ((reachedQ (kdsQ b))[k]) (by assumption)) rfl) rfl rfl ?_
    refine Rv rfl rfl rfl (U_move rfl) rfl rfl ?_
    refine Rv rfl rfl rfl (U_extract rfl rfl) rfl rfl ?_
    refine Rv rfl rfl rfl (U_extract rfl rfl) rfl rfl ?_
    refine Rv rfl rfl rfl (U_assign rfl) rfl rfl ?_
    refine Rv rfl rfl rfl (U_assign rfl) rfl rfl ?_
    refine Re rfl ?_
    refine thenQ_n ?_
    refine W_seq rfl ?_
    refine W_seq rfl ?_
    refine W_reg rfl ?_
    refine Rv rfl rfl rfl (U_move rfl) rfl rfl ?_
    refine Rv rfl rfl rfl (U_neq rfl rfl) rfl rfl ?_
    refine Rv rfl rfl rfl (U_move rfl) rfl rfl ?_
    refine Rv rfl rfl rfl (U_move rfl) rfl rfl ?_
    refine Rv rfl rfl rfl (OpU.toB (U_lss rfl rfl) (decide_eq_false (by omega))) rfl rfl ?_
    refine Rv rfl rfl rfl (U_pick_f rfl rfl) rfl rfl ?_
    refine Rv rfl rfl rfl (U_move rfl) rfl rfl ?_
    refine Rv rfl rfl rfl (U_move rfl) rfl rfl ?_
    refine Rv rfl rfl rfl (U_move rfl) rfl rfl ?_
    refine Rv rfl rfl rfl (U_move rfl) rfl rfl ?_
    refine Rv rfl rfl rfl (U_mul rfl rfl (w64e (m := (((1 + x % 5) * (1 + x % 5) : Nat) : Int)) (by omega) (by omega) (by omega))) rfl rfl ?_
    refine Rv rfl rfl rfl (OpU.toB (U_gtr rfl rfl) (decide_eq_false (by omega))) rfl rfl ?_
    refine Rv rfl rfl rfl (U_pick_f rfl rfl) rfl rfl ?_
    refine Re rfl ?_
    refine thenQ_n ?_
    refine Wcond rfl rfl (fun h => nomatch h) (fun _ => ?_)
    refine W_skip rfl ?_
    refine thenQ_n ?_
    refine W_seq rfl ?_
    refine W_reg rfl ?_
    refine Rv rfl rfl rfl (U_assign rfl) rfl rfl ?_
    refine Re rfl ?_
    refine thenQ_n ?_
    refine W_seq rfl ?_
    refine W_seq rfl ?_
    refine W_reg rfl ?_
    refine Rv rfl rfl rfl (U_assign rfl) rfl rfl ?_
    refine Re rfl ?_
    refine thenQ_n ?_
    refine W_block rfl ?_
    refine LoopTo (T' := [(7, i64 ((1 + x % 5 : Nat) : Int)), (8, i64 ((1 + y % 4 : Nat) : Int)), (10, .ros ((reachedQ (kdsQ b)).map i64) ((reachedQ (kdsQ b)).length) none), (12, i64 ((cntT (1 + x % 5) (1 + y % 4) (reachedQ (kdsQ b)) : Nat) : Int)), (14, i64 s), (15, i64 ((k : Nat) : Int)), (16, i64 ((cirQ (1 + x % 5) ((reachedQ (kdsQ b))[k]) : Nat) : Int)), (18, i64 1), (19, i64 ((0 : Nat) : Int))]) (H' := []) (n := 0) rfl (fun mz_ qz_ => ∃ (j : Nat) (p : Int), j ≤ cirQ (1 + x % 5) (reachedQ (kdsQ b))[k] ∧ p = ((1 + y % 4 : Nat) : Int) ^ j ∧ mz_ = cirQ (1 + x % 5) (reachedQ (kdsQ b))[k] - j ∧ qz_ = ⟨[(7, i64 ((1 + x % 5 : Nat) : Int)), (8, i64 ((1 + y % 4 : Nat) : Int)), (10, .ros ((reachedQ (kdsQ b)).map i64) ((reachedQ (kdsQ b)).length) none), (12, i64 ((cntT (1 + x % 5) (1 + y % 4) (reachedQ (kdsQ b)) : Nat) : Int)), (14, i64 s), (15, i64 ((k : Nat) : Int)), (16, i64 ((cirQ (1 + x % 5) ((reachedQ (kdsQ b))[k]) : Nat) : Int)), (18, i64 p), (19, i64 ((j : Nat) : Int))], [], 0, []⟩) ⟨0, 1, (by omega), (by simp), rfl, rfl⟩ id ⟨eD rfl rfl, eD rfl rfl, eD rfl rfl, eD rfl rfl, eD rfl rfl, eD rfl rfl, eD rfl rfl, eD rfl rfl, eD rfl rfl, trivial⟩ trivial rfl rfl rfl rfl (fun _ _ => rfl) ?_
    rintro _ _ ⟨j, p, hi1_0, hi1_1, rfl, rfl⟩
    refine W_seq rfl ?_
    refine W_seq rfl ?_
    refine W_reg rfl ?_
    refine Rv rfl rfl rfl (U_move rfl) rfl rfl ?_
    refine Rv rfl rfl rfl (U_move rfl) rfl rfl ?_
    refine Rv rfl rfl rfl (U_lss rfl rfl) rfl rfl ?_
    refine Re rfl ?_
    refine thenQ_n ?_
    refine WcondP rfl rfl (fun hc3 => ?_) (fun hc3 => ?_)
    · have hpb := pow_bd haI (j := j) (by omega)
      have hpb2 := pow_bd haI (j := j + 1) (by omega)
      rw [Int.pow_succ] at hpb2
      rw [← hi1_1] at hpb hpb2
      refine W_skip rfl ?_
      refine thenQ_n ?_
      refine W_seq rfl ?_
      refine W_block rfl ?_
      refine W_reg rfl ?_
      refine Rv rfl rfl rfl (U_move rfl) rfl rfl ?_
      refine Rv rfl rfl rfl (U_move rfl) rfl rfl ?_
      refine Rv rfl rfl rfl (U_mul rfl rfl (w64 (by omega) (by omega))) rfl rfl ?_
      refine Rv rfl rfl rfl (U_assign rfl) rfl rfl ?_
      refine Re rfl ?_
      refine blkQ_n ?_
      refine thenQ_n ?_
      refine W_reg rfl ?_
      refine Rv rfl rfl rfl (U_move rfl) rfl rfl ?_
      refine Rv rfl rfl rfl (U_add rfl rfl (w64e (m := ((j + 1 : Nat) : Int)) (by omega) (by omega) (by omega))) rfl rfl ?_
      refine Rv rfl rfl rfl (U_assign rfl) rfl rfl ?_
      refine Re rfl ?_
      refine thenQ_n ?_
      exact againTo (T' := [(7, i64 ((1 + x % 5 : Nat) : Int)), (8, i64 ((1 + y % 4 : Nat) : Int)), (10, .ros ((reachedQ (kdsQ b)).map i64) ((reachedQ (kdsQ b)).length) none), (12, i64 ((cntT (1 + x % 5) (1 + y % 4) (reachedQ (kdsQ b)) : Nat) : Int)), (14, i64 s), (15, i64 ((k : Nat) : Int)), (16, i64 ((cirQ (1 + x % 5) ((reachedQ (kdsQ b))[k]) : Nat) : Int)), (18, i64 (p * ((1 + y % 4 : Nat) : Int))), (19, i64 (((j + 1) : Nat) : Int))]) (H' := []) (n := 0) (cirQ (1 + x % 5) (reachedQ (kdsQ b))[k] - (j + 1)) ⟨j + 1, p * ((1 + y % 4 : Nat) : Int), (by omega), (by rw [Int.pow_succ, ← hi1_1]), rfl, rfl⟩ (by omega) id ⟨eD rfl rfl, eD rfl rfl, eD rfl rfl, eD rfl rfl, eD rfl rfl, eD rfl rfl, eD rfl rfl, eD rfl rfl, eD rfl rfl, trivial⟩ trivial rfl rfl rfl rfl (fun _ _ => rfl)
    · have hpw : p = ((1 + y % 4 : Nat) : Int) ^ cirQ (1 + x % 5) (reachedQ (kdsQ b))[k] := by rw [hi1_1]; congr 1; omega
      have hpb := pow_bd haI hcb
      rw [← hpw] at hpb
      refine W_exit rfl ?_
      refine thenQ_x ?_
      refine thenQ_x ?_
      refine blkQ_x rfl ?_
      refine thenQ_n ?_
      refine W_reg rfl ?_
      refine Rv rfl rfl rfl (U_move rfl) rfl rfl ?_
      refine Rv rfl rfl rfl (U_move rfl) rfl rfl ?_
      refine Rv rfl rfl rfl (U_add rfl rfl (w64 (by omega) (by omega))) rfl rfl ?_
      refine Rv rfl rfl rfl (U_assign rfl) rfl rfl ?_
      refine Re rfl ?_
      refine blkQ_n ?_
      refine thenQ_n ?_
      refine W_reg rfl ?_
      refine Rv rfl rfl rfl (U_move rfl) rfl rfl ?_
      refine Rv rfl rfl rfl (U_add rfl rfl (w64e (m := ((k + 1 : Nat) : Int)) (by omega) (by omega) (by omega))) rfl rfl ?_
      refine Rv rfl rfl rfl (U_assign rfl) rfl rfl ?_
      refine Re rfl ?_
      refine thenQ_n ?_
      exact againTo (T' := [(7, i64 ((1 + x % 5 : Nat) : Int)), (8, i64 ((1 + y % 4 : Nat) : Int)), (10, .ros ((reachedQ (kdsQ b)).map i64) ((reachedQ (kdsQ b)).length) none), (12, i64 ((cntT (1 + x % 5) (1 + y % 4) (reachedQ (kdsQ b)) : Nat) : Int)), (14, i64 (s + p)), (15, i64 (((k + 1) : Nat) : Int))]) (H' := []) (n := 0) ((reachedQ (kdsQ b)).length - (k + 1)) ⟨k + 1, s + p, (by omega), (by rw [sumI_take hck, ← hi0_1, hpw]), (by have := pow_bd haI hcb; rw [← hpw] at this; omega), rfl, rfl⟩ (by omega) id ⟨eD rfl rfl, eD rfl rfl, eD rfl rfl, eD rfl rfl, eD rfl rfl, eD rfl rfl, trivial⟩ trivial rfl rfl rfl rfl (fun _ _ => rfl)
  · have hsl : s = sumI (1 + x % 5) ((1 + y % 4 : Nat) : Int) (reachedQ (kdsQ b)) := by rw [hi0_1]; exact sum_len (by omega)
    refine W_exit rfl ?_
    refine thenQ_x ?_
    refine thenQ_x ?_
    refine blkQ_x rfl ?_
    refine thenQ_n ?_
    refine W_seq rfl ?_
    refine W_reg rfl ?_
    refine Rv rfl rfl rfl (U_move rfl) rfl rfl ?_
    refine Rv rfl rfl rfl (U_move rfl) rfl rfl ?_
    refine Rv rfl rfl rfl (U_lenOf rfl len_ros) rfl rfl ?_
    refine Rv rfl rfl rfl (U_mul rfl rfl (w64 (by rw [hcl]; omega) (by rw [hcl]; omega))) rfl rfl ?_
    refine Rv rfl rfl rfl (U_move rfl) rfl rfl ?_
    refine Rv rfl rfl rfl (OpU.toB (U_eql rfl rfl) (decide_eq_true (by rw [hcl]; exact hsl.symm))) rfl rfl ?_
    refine Rv rfl rfl rfl (U_move rfl) rfl rfl ?_
    refine Rv rfl rfl rfl (U_call rfl rfl (works_p) rfl) rfl rfl ?_
    refine Rv rfl rfl rfl (U_pick_t rfl rfl) rfl rfl ?_
    refine Rv rfl rfl rfl (U_assign rfl) rfl rfl ?_
    refine Re rfl ?_
    refine thenQ_n ?_
    refine W_ret rfl ?_
    exact retL (rlT rfl rl0) rfl rfl
end Go.Proofs.Ythoodfiacfmhgaa
end
