import Derived.Test.YthoodfiacfmhgaaM13
import Derived.Test.YthoodfiacfmhgaaM11
set_option linter.all false
section
/- One kind more. -/
namespace Go.Proofs.Ythoodfiacfmhgaa
set_option maxRecDepth 20000
open Go.AE
theorem plateMore0_p (p : Pl) (c : Option Nat) (b m x s y : Nat) (hf : (!(!grt p && decide (chkP p = 0))) = true) : Pure Try.prog 15 [plA p c, .int .u8 (b : Nat), .int .u8 (m : Nat), .int .u8 (x : Nat), .int .u8 (s : Nat), .int .u8 (y : Nat)] (.bool true) := by
  refine pure_of_body Try.func15 (c := body Try.f15) rfl (by simp [Try.ntmps15]) fun w0 Φ0 => ?_
  refine W_seq rfl ?_
  refine W_reg rfl ?_
  refine Rv rfl rfl rfl (U_boxF rfl rfl rfl) rfl rfl ?_
  refine Rv rfl rfl rfl (U_assign rfl) rfl rfl ?_
  refine Re rfl ?_
  refine thenQ_n ?_
  refine W_seq rfl ?_
  refine W_seq rfl ?_
  refine W_reg rfl ?_
  refine Rv rfl rfl rfl (U_load2 rfl rfl rfl rfl) rfl rfl ?_
  refine Rv rfl rfl rfl (U_call rfl rfl (fine_p p c) rfl) rfl rfl ?_
  refine Rv rfl rfl rfl (U_not rfl) rfl rfl ?_
  refine Re rfl ?_
  refine thenQ_n ?_
  refine Wcond rfl rfl (fun hc0 => ?_) (fun hc0 => absurd hc0 (by rw [hf]; simp))
  refine W_seq rfl ?_
  refine W_reg rfl ?_
  refine Rv rfl rfl rfl (U_call rfl rfl (works_p) rfl) rfl rfl ?_
  refine Rv rfl rfl rfl (U_assign rfl) rfl rfl ?_
  refine Re rfl ?_
  refine thenQ_n ?_
  refine W_ret rfl ?_
  refine thenQ_r ?_
  exact retL (rlT rfl rl0) rfl rfl
theorem plateMore1_p (p : Pl) (c : Option Nat) (b m x s y : Nat) (hb8 : b < 256) (hm8 : m < 256) (hx256 : x < 256) (hs256 : s < 256) (hy256 : y < 256) (N : Nat) (hv : VP p N) (hA : geN (heiQ (kdsQ b)) (((x % 8 : Nat) : Int)).toNat ≠ 20) (hB : geN (heiQ (kdsQ (b ||| 1 <<< (m % 8)))) (((x % 8 : Nat) : Int)).toNat ≠ 20) : Pure Try.prog 15 [plA p c, .int .u8 (b : Nat), .int .u8 (m : Nat), .int .u8 (x : Nat), .int .u8 (s : Nat), .int .u8 (y : Nat)] (.bool true) := by
  have hl1 := vp_mil hv
  obtain ⟨hsh, hsl⟩ := shl_lt m
  have hbw : (b ||| 1 <<< (m % 8)) < 256 := Nat.or_lt_two_pow (n := 8) hb8 hsl
  have hok := kds_ok b
  have hok2 := kds_ok (b ||| 1 <<< (m % 8))
  obtain ⟨hr0, hr8⟩ := reached_len (ks := (kdsQ b))
  obtain ⟨hs0, hs8⟩ := reached_len (ks := (kdsQ (b ||| 1 <<< (m % 8))))
  have hx8 : x % 8 < 8 := Nat.mod_lt x (by decide)
  have hmo : 0 ≤ ((x % 8 : Nat) : Int) ∧ ((x % 8 : Nat) : Int) < 8 := by omega
  have hsub : ∀ z ∈ (kdsQ b), z ∈ (kdsQ (b ||| 1 <<< (m % 8))) := fun z hz => kds_sub hz
  have hgs : ∀ z ∈ (reachedQ (kdsQ b)), z ∈ (reachedQ (kdsQ (b ||| 1 <<< (m % 8)))) := fun z hz => reached_mono hok hok2 hsub hz
  have hn5 : 1 ≤ 1 + s % 5 ∧ 1 + s % 5 ≤ 5 := by omega
  have ha4 : 1 ≤ 1 + y % 4 ∧ 1 + y % 4 ≤ 4 := by omega
  have hcm := cnt_mono (reach_G hok) (reach_G hok2) hgs hn5 ha4
  have hll1 := vp_mil (movP_vp hv (ls_in (p := p) (ks := (kdsQ b))))
  have hll2 := vp_mil (movP_vp hv (ls_in (p := p) (ks := (kdsQ (b ||| 1 <<< (m % 8))))))
  have hpm := plan_mono hok hok2 hsub hmo hA hB
  refine pure_of_body Try.func15 (c := body Try.f15) rfl (by simp [Try.ntmps15]) fun w0 Φ0 => ?_
  refine W_seq rfl ?_
  refine W_reg rfl ?_
  refine Rv rfl rfl rfl (U_boxF rfl rfl rfl) rfl rfl ?_
  refine Rv rfl rfl rfl (U_assign rfl) rfl rfl ?_
  refine Re rfl ?_
  refine thenQ_n ?_
  refine W_seq rfl ?_
  refine W_seq rfl ?_
  refine W_reg rfl ?_
  refine Rv rfl rfl rfl (U_load2 rfl rfl rfl rfl) rfl rfl ?_
  refine Rv rfl rfl rfl (U_call rfl rfl (fineG_p p c _ (by assumption)) rfl) rfl rfl ?_
  refine Rv rfl rfl rfl (U_not rfl) rfl rfl ?_
  refine Re rfl ?_
  refine thenQ_n ?_
  refine Wcond rfl rfl (fun h => nomatch h) (fun _ => ?_)
  refine W_skip rfl ?_
  refine thenQ_n ?_
  refine W_seq rfl ?_
  refine W_reg rfl ?_
  refine Rv rfl rfl rfl (U_move rfl) rfl rfl ?_
  refine Rv rfl rfl rfl (U_call rfl rfl (kinds_p b (by assumption)) rfl) rfl rfl ?_
  refine Rv rfl rfl rfl (U_move rfl) rfl rfl ?_
  refine Rv rfl rfl rfl (U_move rfl) rfl rfl ?_
  refine Rv rfl rfl rfl (U_rem (c := ((m % 8 : Nat) : Int)) rfl rfl (by omega) (tmodN _ _)) rfl rfl ?_
  refine Rv rfl rfl rfl (U_shl rfl rfl (by omega) (shlN8 (n := 1) (i := m % 8) hsh (by omega))) rfl rfl ?_
  refine Rv rfl rfl rfl (U_or rfl rfl (orN8 (a := b) (b := 1 <<< (m % 8)) hb8 hsl)) rfl rfl ?_
  refine Rv rfl rfl rfl (U_call rfl rfl (kinds_p (b ||| (1 <<< (m % 8))) (by assumption)) rfl) rfl rfl ?_
  refine Rv rfl rfl rfl (U_assign rfl) rfl rfl ?_
  refine Rv rfl rfl rfl (U_assign rfl) rfl rfl ?_
  refine Re rfl ?_
  refine thenQ_n ?_
  refine W_seq rfl ?_
  refine W_reg rfl ?_
  refine Rv rfl rfl rfl (U_move rfl) rfl rfl ?_
  refine Rv rfl rfl rfl (U_convInt (by rfl) rfl (wr_i64 (by omega) (by omega))) rfl rfl ?_
  refine Rv rfl rfl rfl (U_rem (c := ((s % 5 : Nat) : Int)) rfl rfl (by omega) (tmodN _ _)) rfl rfl ?_
  refine Rv rfl rfl rfl (U_add rfl rfl (w64e (m := ((1 + s % 5 : Nat) : Int)) (by omega) (by omega) (by omega))) rfl rfl ?_
  refine Rv rfl rfl rfl (U_move rfl) rfl rfl ?_
  refine Rv rfl rfl rfl (U_convInt (by rfl) rfl (wr_i64 (by omega) (by omega))) rfl rfl ?_
  refine Rv rfl rfl rfl (U_rem (c := ((y % 4 : Nat) : Int)) rfl rfl (by omega) (tmodN _ _)) rfl rfl ?_
  refine Rv rfl rfl rfl (U_add rfl rfl (w64e (m := ((1 + y % 4 : Nat) : Int)) (by omega) (by omega) (by omega))) rfl rfl ?_
  refine Rv rfl rfl rfl (U_move rfl) rfl rfl ?_
  refine Rv rfl rfl rfl (U_rem (c := ((x % 8 : Nat) : Int)) rfl rfl (by omega) (tmodN _ _)) rfl rfl ?_
  refine Rv rfl rfl rfl (U_convInt (by rfl) rfl (wr_i64 (by omega) (by omega))) rfl rfl ?_
  refine Rv rfl rfl rfl (U_assign rfl) rfl rfl ?_
  refine Rv rfl rfl rfl (U_assign rfl) rfl rfl ?_
  refine Rv rfl rfl rfl (U_assign rfl) rfl rfl ?_
  refine Re rfl ?_
  refine thenQ_n ?_
  refine W_seq rfl ?_
  refine W_reg rfl ?_
  refine Rv rfl rfl rfl (U_move rfl) rfl rfl ?_
  refine Rv rfl rfl rfl (U_call rfl rfl (reachedG_p (kdsQ b) none (by assumption)) rfl) rfl rfl ?_
  refine Rv rfl rfl rfl (U_move rfl) rfl rfl ?_
  refine Rv rfl rfl rfl (U_extract rfl rfl) rfl rfl ?_
  refine Rv rfl rfl rfl (U_extract rfl rfl) rfl rfl ?_
  refine Rv rfl rfl rfl (U_assign rfl) rfl rfl ?_
  refine Rv rfl rfl rfl (U_assign rfl) rfl rfl ?_
  refine Re rfl ?_
  refine thenQ_n ?_
  refine W_seq rfl ?_
  refine W_reg rfl ?_
  refine Rv rfl rfl rfl (U_move rfl) rfl rfl ?_
  refine Rv rfl rfl rfl (U_call rfl rfl (reachedG_p (kdsQ (b ||| (1 <<< (m % 8)))) none (by assumption)) rfl) rfl rfl ?_
  refine Rv rfl rfl rfl (U_move rfl) rfl rfl ?_
  refine Rv rfl rfl rfl (U_extract rfl rfl) rfl rfl ?_
  refine Rv rfl rfl rfl (U_extract rfl rfl) rfl rfl ?_
  refine Rv rfl rfl rfl (U_assign rfl) rfl rfl ?_
  refine Rv rfl rfl rfl (U_assign rfl) rfl rfl ?_
  refine Re rfl ?_
  refine thenQ_n ?_
  refine W_seq rfl ?_
  refine W_seq rfl ?_
  refine W_reg rfl ?_
  refine Rv rfl rfl rfl (U_move rfl) rfl rfl ?_
  refine Rv rfl rfl rfl (U_not rfl) rfl rfl ?_
  refine Rv rfl rfl rfl (U_move rfl) rfl rfl ?_
  refine Rv rfl rfl rfl (U_move rfl) rfl rfl ?_
  refine Rv rfl rfl rfl (U_not rfl) rfl rfl ?_
  refine Rv rfl rfl rfl (U_pick_f rfl rfl) rfl rfl ?_
  refine Re rfl ?_
  refine thenQ_n ?_
  refine Wcond rfl rfl (fun h => nomatch h) (fun _ => ?_)
  refine W_skip rfl ?_
  refine thenQ_n ?_
  refine W_seq rfl ?_
  refine W_seq rfl ?_
  refine W_reg rfl ?_
  refine Rv rfl rfl rfl (U_assign rfl) rfl rfl ?_
  refine Re rfl ?_
  refine thenQ_n ?_
  refine W_block rfl ?_
  refine LoopTo (T' := [(6, .rop [i64 p.n, .ros (p.ds.map i64) p.ds.length c] 0), (13, .ros ((kdsQ b).map i64) ((kdsQ b).length) none), (14, .ros ((kdsQ (b ||| (1 <<< (m % 8)))).map i64) ((kdsQ (b ||| (1 <<< (m % 8)))).length) none), (15, i64 ((1 + s % 5 : Nat) : Int)), (16, i64 ((1 + y % 4 : Nat) : Int)), (17, i64 ((x % 8 : Nat) : Int)), (18, .ros ((reachedQ (kdsQ b)).map i64) ((reachedQ (kdsQ b)).length) none), (20, .ros ((reachedQ (kdsQ (b ||| (1 <<< (m % 8))))).map i64) ((reachedQ (kdsQ (b ||| (1 <<< (m % 8))))).length) none), (22, i64 ((0 : Nat) : Int))]) (H' := []) (n := 0) rfl (fun mz_ qz_ => ∃ (k : Nat), k ≤ (reachedQ (kdsQ b)).length ∧ mz_ = (reachedQ (kdsQ b)).length - k ∧ qz_ = ⟨[(6, .rop [i64 p.n, .ros (p.ds.map i64) p.ds.length c] 0), (13, .ros ((kdsQ b).map i64) ((kdsQ b).length) none), (14, .ros ((kdsQ (b ||| (1 <<< (m % 8)))).map i64) ((kdsQ (b ||| (1 <<< (m % 8)))).length) none), (15, i64 ((1 + s % 5 : Nat) : Int)), (16, i64 ((1 + y % 4 : Nat) : Int)), (17, i64 ((x % 8 : Nat) : Int)), (18, .ros ((reachedQ (kdsQ b)).map i64) ((reachedQ (kdsQ b)).length) none), (20, .ros ((reachedQ (kdsQ (b ||| (1 <<< (m % 8))))).map i64) ((reachedQ (kdsQ (b ||| (1 <<< (m % 8))))).length) none), (22, i64 ((k : Nat) : Int))], [], 0, []⟩) ⟨0, (by omega), rfl, rfl⟩ id ⟨eD rfl rfl, eD rfl rfl, eD rfl rfl, eD rfl rfl, eD rfl rfl, eD rfl rfl, eD rfl rfl, eD rfl rfl, eD rfl rfl, trivial⟩ trivial rfl rfl rfl rfl (fun _ _ => rfl) ?_
  rintro _ _ ⟨k, hi0_0, rfl, rfl⟩
  refine W_seq rfl ?_
  refine W_seq rfl ?_
  refine W_reg rfl ?_
  refine Rv rfl rfl rfl (U_move rfl) rfl rfl ?_
  refine Rv rfl rfl rfl (U_move rfl) rfl rfl ?_
  refine Rv rfl rfl rfl (U_lenOf rfl len_ros) rfl rfl ?_
  refine Rv rfl rfl rfl (U_lss rfl rfl) rfl rfl ?_
  refine Re rfl ?_
  refine thenQ_n ?_
  refine WcondP rfl rfl (fun hc2 => ?_) (fun hc2 => ?_)
  · have hck : k < (reachedQ (kdsQ b)).length := by omega
    have hmem := hgs _ (List.getElem_mem hck)
    refine W_skip rfl ?_
    refine thenQ_n ?_
    refine W_seq rfl ?_
    refine W_block rfl ?_
    refine W_seq rfl ?_
    refine W_reg rfl ?_
    refine Rv rfl rfl rfl (U_move rfl) rfl rfl ?_
    refine Rv rfl rfl rfl (U_move rfl) rfl rfl ?_
    refine Rv rfl rfl rfl (U_move rfl) rfl rfl ?_
    have hx1 : k < (reachedQ (kdsQ b)).length := by omega
    refine Rv rfl rfl rfl (U_indexR (j := k) rfl rfl rfl hx1) rfl rfl ?_
    refine Rv rfl rfl rfl (U_load1 rfl rfl (getM hx1)) rfl rfl ?_
    refine Rv rfl rfl rfl (U_call rfl rfl (hasT_p (reachedQ (kdsQ (b ||| (1 <<< (m % 8))))) ((reachedQ (kdsQ b))[k]) none (by omega) (by assumption)) rfl) rfl rfl ?_
    refine Rv rfl rfl rfl (U_not rfl) rfl rfl ?_
    refine Re rfl ?_
    refine thenQ_n ?_
    refine Wcond rfl rfl (fun h => nomatch h) (fun _ => ?_)
    refine W_skip rfl ?_
    refine blkQ_n ?_
    refine thenQ_n ?_
    refine W_reg rfl ?_
    refine Rv rfl rfl rfl (U_move rfl) rfl rfl ?_
    refine Rv rfl rfl rfl (U_add rfl rfl (w64e (m := ((k + 1 : Nat) : Int)) (by omega) (by omega) (by omega))) rfl rfl ?_
    refine Rv rfl rfl rfl (U_assign rfl) rfl rfl ?_
    refine Re rfl ?_
    refine thenQ_n ?_
    exact againTo (T' := [(6, .rop [i64 p.n, .ros (p.ds.map i64) p.ds.length c] 0), (13, .ros ((kdsQ b).map i64) ((kdsQ b).length) none), (14, .ros ((kdsQ (b ||| (1 <<< (m % 8)))).map i64) ((kdsQ (b ||| (1 <<< (m % 8)))).length) none), (15, i64 ((1 + s % 5 : Nat) : Int)), (16, i64 ((1 + y % 4 : Nat) : Int)), (17, i64 ((x % 8 : Nat) : Int)), (18, .ros ((reachedQ (kdsQ b)).map i64) ((reachedQ (kdsQ b)).length) none), (20, .ros ((reachedQ (kdsQ (b ||| (1 <<< (m % 8))))).map i64) ((reachedQ (kdsQ (b ||| (1 <<< (m % 8))))).length) none), (22, i64 (((k + 1) : Nat) : Int))]) (H' := []) (n := 0) ((reachedQ (kdsQ b)).length - (k + 1)) ⟨k + 1, (by omega), rfl, rfl⟩ (by omega) id ⟨eD rfl rfl, eD rfl rfl, eD rfl rfl, eD rfl rfl, eD rfl rfl, eD rfl rfl, eD rfl rfl, eD rfl rfl, eD rfl rfl, trivial⟩ trivial rfl rfl rfl rfl (fun _ _ => rfl)
  · refine W_exit rfl ?_
    refine thenQ_x ?_
    refine thenQ_x ?_
    refine blkQ_x rfl ?_
    refine thenQ_n ?_
    refine W_seq rfl ?_
    refine W_reg rfl ?_
    refine Rv rfl rfl rfl (U_move rfl) rfl rfl ?_
    refine Rv rfl rfl rfl (U_move rfl) rfl rfl ?_
    refine Rv rfl rfl rfl (U_move rfl) rfl rfl ?_
    refine Rv rfl rfl rfl (U_call rfl rfl (countG_p (1 + s % 5) (1 + y % 4) (by omega) (by omega) (kdsQ b) none (by assumption)) rfl) rfl rfl ?_
    refine Rv rfl rfl rfl (U_move rfl) rfl rfl ?_
    refine Rv rfl rfl rfl (U_extract rfl rfl) rfl rfl ?_
    refine Rv rfl rfl rfl (U_extract rfl rfl) rfl rfl ?_
    refine Rv rfl rfl rfl (U_assign rfl) rfl rfl ?_
    refine Rv rfl rfl rfl (U_assign rfl) rfl rfl ?_
    refine Re rfl ?_
    refine thenQ_n ?_
    refine W_seq rfl ?_
    refine W_reg rfl ?_
    refine Rv rfl rfl rfl (U_move rfl) rfl rfl ?_
    refine Rv rfl rfl rfl (U_move rfl) rfl rfl ?_
    refine Rv rfl rfl rfl (U_move rfl) rfl rfl ?_
    refine Rv rfl rfl rfl (U_call rfl rfl (countG_p (1 + s % 5) (1 + y % 4) (by omega) (by omega) (kdsQ (b ||| (1 <<< (m % 8)))) none (by assumption)) rfl) rfl rfl ?_
    refine Rv rfl rfl rfl (U_move rfl) rfl rfl ?_
    refine Rv rfl rfl rfl (U_extract rfl rfl) rfl rfl ?_
    refine Rv rfl rfl rfl (U_extract rfl rfl) rfl rfl ?_
    refine Rv rfl rfl rfl (U_assign rfl) rfl rfl ?_
    refine Rv rfl rfl rfl (U_assign rfl) rfl rfl ?_
    refine Re rfl ?_
    refine thenQ_n ?_
    refine W_seq rfl ?_
    refine W_reg rfl ?_
    refine Rv rfl rfl rfl (U_load2 rfl rfl rfl rfl) rfl rfl ?_
    refine Rv rfl rfl rfl (U_move rfl) rfl rfl ?_
    refine Rv rfl rfl rfl (U_call rfl rfl (leastG_p p c _ (by assumption) (kdsQ b) none (by assumption)) rfl) rfl rfl ?_
    refine Rv rfl rfl rfl (U_move rfl) rfl rfl ?_
    refine Rv rfl rfl rfl (U_extract rfl rfl) rfl rfl ?_
    refine Rv rfl rfl rfl (U_extract rfl rfl) rfl rfl ?_
    refine Rv rfl rfl rfl (U_extract rfl rfl) rfl rfl ?_
    refine Ra rfl rfl rfl (U_alloc) rfl rfl rfl ?_
    refine Rn rfl rfl rfl (U_storeAll rfl rfl rfl rfl rfl rfl) rfl ?_
    refine Rv rfl rfl rfl (U_assign rfl) rfl rfl ?_
    refine Rv rfl rfl rfl (U_assign rfl) rfl rfl ?_
    refine Re rfl ?_
    refine thenQ_n ?_
    refine WfrN 0 rfl rfl (T' := [(6, .rop [i64 p.n, .ros (p.ds.map i64) p.ds.length c] 0), (13, .ros ((kdsQ b).map i64) ((kdsQ b).length) none), (14, .ros ((kdsQ (b ||| (1 <<< (m % 8)))).map i64) ((kdsQ (b ||| (1 <<< (m % 8)))).length) none), (17, i64 ((x % 8 : Nat) : Int)), (18, .ros ((reachedQ (kdsQ b)).map i64) ((reachedQ (kdsQ b)).length) none), (20, .ros ((reachedQ (kdsQ (b ||| (1 <<< (m % 8))))).map i64) ((reachedQ (kdsQ (b ||| (1 <<< (m % 8))))).length) none), (23, i64 ((cntT (1 + s % 5) (1 + y % 4) (reachedQ (kdsQ b)) : Nat) : Int)), (24, i64 0), (25, i64 ((cntT (1 + s % 5) (1 + y % 4) (reachedQ (kdsQ (b ||| (1 <<< (m % 8))))) : Nat) : Int)), (26, i64 0), (27, .rop [i64 ((movP p (lsM p (kdsQ b))).n), .ros (((movP p (lsM p (kdsQ b))).ds).map i64) (((movP p (lsM p (kdsQ b))).ds).length) none] 0), (29, i64 0)]) (H' := []) ⟨⟨_, rfl, rfl⟩, ⟨_, rfl, rfl⟩, ⟨_, rfl, rfl⟩, ⟨_, rfl, rfl⟩, ⟨_, rfl, rfl⟩, ⟨_, rfl, rfl⟩, ⟨_, rfl, rfl⟩, ⟨_, rfl, rfl⟩, ⟨_, rfl, rfl⟩, ⟨_, rfl, rfl⟩, ⟨_, rfl, rfl⟩, ⟨_, rfl, rfl⟩, trivial⟩ trivial ?_
    refine W_seq rfl ?_
    refine W_reg rfl ?_
    refine Rv rfl rfl rfl (U_load2 rfl rfl rfl rfl) rfl rfl ?_
    refine Rv rfl rfl rfl (U_move rfl) rfl rfl ?_
    refine Rv rfl rfl rfl (U_call rfl rfl (leastG_p p c _ (by assumption) (kdsQ (b ||| (1 <<< (m % 8)))) none (by assumption)) rfl) rfl rfl ?_
    refine Rv rfl rfl rfl (U_move rfl) rfl rfl ?_
    refine Rv rfl rfl rfl (U_extract rfl rfl) rfl rfl ?_
    refine Rv rfl rfl rfl (U_extract rfl rfl) rfl rfl ?_
    refine Rv rfl rfl rfl (U_extract rfl rfl) rfl rfl ?_
    refine Ra rfl rfl rfl (U_alloc) rfl rfl rfl ?_
    refine Rn rfl rfl rfl (U_storeAll rfl rfl rfl rfl rfl rfl) rfl ?_
    refine Rv rfl rfl rfl (U_assign rfl) rfl rfl ?_
    refine Rv rfl rfl rfl (U_assign rfl) rfl rfl ?_
    refine Re rfl ?_
    refine thenQ_n ?_
    refine WfrN 1 rfl rfl (T' := [(13, .ros ((kdsQ b).map i64) ((kdsQ b).length) none), (14, .ros ((kdsQ (b ||| (1 <<< (m % 8)))).map i64) ((kdsQ (b ||| (1 <<< (m % 8)))).length) none), (17, i64 ((x % 8 : Nat) : Int)), (18, .ros ((reachedQ (kdsQ b)).map i64) ((reachedQ (kdsQ b)).length) none), (20, .ros ((reachedQ (kdsQ (b ||| (1 <<< (m % 8))))).map i64) ((reachedQ (kdsQ (b ||| (1 <<< (m % 8))))).length) none), (23, i64 ((cntT (1 + s % 5) (1 + y % 4) (reachedQ (kdsQ b)) : Nat) : Int)), (24, i64 0), (25, i64 ((cntT (1 + s % 5) (1 + y % 4) (reachedQ (kdsQ (b ||| (1 <<< (m % 8))))) : Nat) : Int)), (26, i64 0), (27, .rop [i64 ((movP p (lsM p (kdsQ b))).n), .ros (((movP p (lsM p (kdsQ b))).ds).map i64) (((movP p (lsM p (kdsQ b))).ds).length) none] 0), (29, i64 0), (30, .rop [i64 ((movP p (lsM p (kdsQ (b ||| (1 <<< (m % 8)))))).n), .ros (((movP p (lsM p (kdsQ (b ||| (1 <<< (m % 8)))))).ds).map i64) (((movP p (lsM p (kdsQ (b ||| (1 <<< (m % 8)))))).ds).length) none] 0), (32, i64 0)]) (H' := []) ⟨⟨_, rfl, rfl⟩, ⟨_, rfl, rfl⟩, ⟨_, rfl, rfl⟩, ⟨_, rfl, rfl⟩, ⟨_, rfl, rfl⟩, ⟨_, rfl, rfl⟩, ⟨_, rfl, rfl⟩, ⟨_, rfl, rfl⟩, ⟨_, rfl, rfl⟩, ⟨_, rfl, rfl⟩, ⟨_, rfl, rfl⟩, ⟨_, rfl, rfl⟩, ⟨_, rfl, rfl⟩, trivial⟩ trivial ?_
    refine W_seq rfl ?_
    refine W_reg rfl ?_
    refine Rv rfl rfl rfl (U_move rfl) rfl rfl ?_
    refine Rv rfl rfl rfl (U_move rfl) rfl rfl ?_
    refine Rv rfl rfl rfl (U_call rfl rfl (planAQ_p (kdsQ b) none (by assumption) ((x % 8 : Nat) : Int) hmo hA) rfl) rfl rfl ?_
    refine Rv rfl rfl rfl (U_move rfl) rfl rfl ?_
    refine Rv rfl rfl rfl (U_extract rfl rfl) rfl rfl ?_
    refine Rv rfl rfl rfl (U_extract rfl rfl) rfl rfl ?_
    refine Rv rfl rfl rfl (U_assign rfl) rfl rfl ?_
    refine Rv rfl rfl rfl (U_assign rfl) rfl rfl ?_
    refine Re rfl ?_
    refine thenQ_n ?_
    refine W_seq rfl ?_
    refine W_reg rfl ?_
    refine Rv rfl rfl rfl (U_move rfl) rfl rfl ?_
    refine Rv rfl rfl rfl (U_move rfl) rfl rfl ?_
    refine Rv rfl rfl rfl (U_call rfl rfl (planAQ_p (kdsQ (b ||| 1 <<< (m % 8))) none (by assumption) ((x % 8 : Nat) : Int) hmo hB) rfl) rfl rfl ?_
    refine Rv rfl rfl rfl (U_move rfl) rfl rfl ?_
    refine Rv rfl rfl rfl (U_extract rfl rfl) rfl rfl ?_
    refine Rv rfl rfl rfl (U_extract rfl rfl) rfl rfl ?_
    refine Rv rfl rfl rfl (U_assign rfl) rfl rfl ?_
    refine Rv rfl rfl rfl (U_assign rfl) rfl rfl ?_
    refine Re rfl ?_
    refine thenQ_n ?_
    refine W_seq rfl ?_
    refine W_seq rfl ?_
    refine W_reg rfl ?_
    refine Rv rfl rfl rfl (U_move rfl) rfl rfl ?_
    refine Rv rfl rfl rfl (U_neq rfl rfl) rfl rfl ?_
    refine Rv rfl rfl rfl (U_move rfl) rfl rfl ?_
    refine Rv rfl rfl rfl (U_move rfl) rfl rfl ?_
    refine Rv rfl rfl rfl (U_neq rfl rfl) rfl rfl ?_
    refine Rv rfl rfl rfl (U_pick_f rfl rfl) rfl rfl ?_
    refine Rv rfl rfl rfl (U_move rfl) rfl rfl ?_
    refine Rv rfl rfl rfl (U_move rfl) rfl rfl ?_
    refine Rv rfl rfl rfl (U_neq rfl rfl) rfl rfl ?_
    refine Rv rfl rfl rfl (U_pick_f rfl rfl) rfl rfl ?_
    refine Rv rfl rfl rfl (U_move rfl) rfl rfl ?_
    refine Rv rfl rfl rfl (U_move rfl) rfl rfl ?_
    refine Rv rfl rfl rfl (U_neq rfl rfl) rfl rfl ?_
    refine Rv rfl rfl rfl (U_pick_f rfl rfl) rfl rfl ?_
    refine Rv rfl rfl rfl (U_move rfl) rfl rfl ?_
    refine Rv rfl rfl rfl (U_move rfl) rfl rfl ?_
    refine Rv rfl rfl rfl (U_move rfl) rfl rfl ?_
    refine Rv rfl rfl rfl (OpU.toB (U_gtr rfl rfl) (decide_eq_false (by omega))) rfl rfl ?_
    refine Rv rfl rfl rfl (U_pick_f rfl rfl) rfl rfl ?_
    refine Rv rfl rfl rfl (U_move rfl) rfl rfl ?_
    refine Rv rfl rfl rfl (U_fieldAddrR rfl) rfl rfl ?_
    refine Rv rfl rfl rfl (U_load1 rfl rfl rfl) rfl rfl ?_
    refine Rv rfl rfl rfl (U_fieldAddrR rfl) rfl rfl ?_
    refine Rv rfl rfl rfl (U_load1 rfl rfl rfl) rfl rfl ?_
    refine Rv rfl rfl rfl (U_call rfl rfl (behindF_p (movP p (lsM p (kdsQ (b ||| 1 <<< (m % 8))))).ds (movP p (lsM p (kdsQ b))).ds none none hll2 hll1 (by rw [movP_len, movP_len]) (ls_le (hgs _ ls_mem))) rfl) rfl rfl ?_
    refine Rv rfl rfl rfl (U_pick_f rfl rfl) rfl rfl ?_
    refine Re rfl ?_
    refine thenQ_n ?_
    refine Wcond rfl rfl (fun h => nomatch h) (fun _ => ?_)
    refine W_skip rfl ?_
    refine thenQ_n ?_
    refine W_seq rfl ?_
    refine W_reg rfl ?_
    refine Rv rfl rfl rfl (U_move rfl) rfl rfl ?_
    refine Rv rfl rfl rfl (U_neq rfl rfl) rfl rfl ?_
    refine Rv rfl rfl rfl (U_move rfl) rfl rfl ?_
    refine Rv rfl rfl rfl (U_move rfl) rfl rfl ?_
    refine Rv rfl rfl rfl (U_eql rfl rfl) rfl rfl ?_
    refine Rv rfl rfl rfl (U_move rfl) rfl rfl ?_
    refine Rv rfl rfl rfl (U_move rfl) rfl rfl ?_
    refine Rv rfl rfl rfl (U_lenOf rfl len_ros) rfl rfl ?_
    refine Rv rfl rfl rfl (U_move rfl) rfl rfl ?_
    refine Rv rfl rfl rfl (U_lenOf rfl len_ros) rfl rfl ?_
    refine Rv rfl rfl rfl (OpU.toB (U_leq rfl rfl) (decide_eq_true (by omega))) rfl rfl ?_
    refine Rv rfl rfl rfl (U_pick_t rfl rfl) rfl rfl ?_
    refine Rv rfl rfl rfl (U_pick_f rfl rfl) rfl rfl ?_
    refine Rv rfl rfl rfl (U_move rfl) rfl rfl ?_
    refine Rv rfl rfl rfl (U_move rfl) rfl rfl ?_
    refine Rv rfl rfl rfl (U_eql rfl rfl) rfl rfl ?_
    refine Rv rfl rfl rfl (U_move rfl) rfl rfl ?_
    refine Rv rfl rfl rfl (U_move rfl) rfl rfl ?_
    refine Rv rfl rfl rfl (U_call rfl rfl (hasT_p (reachedQ (kdsQ b)) ((x % 8 : Nat) : Int) none (by omega) ((reached_iff hx8).2 hA)) rfl) rfl rfl ?_
    refine Rv rfl rfl rfl (U_eqlB rfl rfl) rfl rfl ?_
    refine Rv rfl rfl rfl (U_pick_t rfl rfl) rfl rfl ?_
    refine Rv rfl rfl rfl (U_move rfl) rfl rfl ?_
    refine Rv rfl rfl rfl (U_move rfl) rfl rfl ?_
    refine Rv rfl rfl rfl (U_eql rfl rfl) rfl rfl ?_
    refine Rv rfl rfl rfl (U_move rfl) rfl rfl ?_
    refine Rv rfl rfl rfl (U_move rfl) rfl rfl ?_
    refine Rv rfl rfl rfl (U_call rfl rfl (hasT_p (reachedQ (kdsQ (b ||| 1 <<< (m % 8)))) ((x % 8 : Nat) : Int) none (by omega) ((reached_iff hx8).2 hB)) rfl) rfl rfl ?_
    refine Rv rfl rfl rfl (U_eqlB rfl rfl) rfl rfl ?_
    refine Rv rfl rfl rfl (U_pick_t rfl rfl) rfl rfl ?_
    refine Rv rfl rfl rfl (U_move rfl) rfl rfl ?_
    refine Rv rfl rfl rfl (U_call rfl rfl (works_p) rfl) rfl rfl ?_
    refine Rv rfl rfl rfl (U_pick_t rfl rfl) rfl rfl ?_
    refine Rv rfl rfl rfl (U_assign rfl) rfl rfl ?_
    refine Re rfl ?_
    refine thenQ_n ?_
    refine W_ret rfl ?_
    exact retL (rlT rfl rl0) rfl rfl
theorem plateMore2_p (p : Pl) (c : Option Nat) (b m x s y : Nat) (hb8 : b < 256) (hm8 : m < 256) (hx256 : x < 256) (hs256 : s < 256) (hy256 : y < 256) (N : Nat) (hv : VP p N) (hA : geN (heiQ (kdsQ b)) (((x % 8 : Nat) : Int)).toNat = 20) (hB : geN (heiQ (kdsQ (b ||| 1 <<< (m % 8)))) (((x % 8 : Nat) : Int)).toNat ≠ 20) : Pure Try.prog 15 [plA p c, .int .u8 (b : Nat), .int .u8 (m : Nat), .int .u8 (x : Nat), .int .u8 (s : Nat), .int .u8 (y : Nat)] (.bool true) := by
  have hl1 := vp_mil hv
  obtain ⟨hsh, hsl⟩ := shl_lt m
  have hbw : (b ||| 1 <<< (m % 8)) < 256 := Nat.or_lt_two_pow (n := 8) hb8 hsl
  have hok := kds_ok b
  have hok2 := kds_ok (b ||| 1 <<< (m % 8))
  obtain ⟨hr0, hr8⟩ := reached_len (ks := (kdsQ b))
  obtain ⟨hs0, hs8⟩ := reached_len (ks := (kdsQ (b ||| 1 <<< (m % 8))))
  have hx8 : x % 8 < 8 := Nat.mod_lt x (by decide)
  have hmo : 0 ≤ ((x % 8 : Nat) : Int) ∧ ((x % 8 : Nat) : Int) < 8 := by omega
  have hsub : ∀ z ∈ (kdsQ b), z ∈ (kdsQ (b ||| 1 <<< (m % 8))) := fun z hz => kds_sub hz
  have hgs : ∀ z ∈ (reachedQ (kdsQ b)), z ∈ (reachedQ (kdsQ (b ||| 1 <<< (m % 8)))) := fun z hz => reached_mono hok hok2 hsub hz
  have hn5 : 1 ≤ 1 + s % 5 ∧ 1 + s % 5 ≤ 5 := by omega
  have ha4 : 1 ≤ 1 + y % 4 ∧ 1 + y % 4 ≤ 4 := by omega
  have hcm := cnt_mono (reach_G hok) (reach_G hok2) hgs hn5 ha4
  have hll1 := vp_mil (movP_vp hv (ls_in (p := p) (ks := (kdsQ b))))
  have hll2 := vp_mil (movP_vp hv (ls_in (p := p) (ks := (kdsQ (b ||| 1 <<< (m % 8))))))
  refine pure_of_body Try.func15 (c := body Try.f15) rfl (by simp [Try.ntmps15]) fun w0 Φ0 => ?_
  refine W_seq rfl ?_
  refine W_reg rfl ?_
  refine Rv rfl rfl rfl (U_boxF rfl rfl rfl) rfl rfl ?_
  refine Rv rfl rfl rfl (U_assign rfl) rfl rfl ?_
  refine Re rfl ?_
  refine thenQ_n ?_
  refine W_seq rfl ?_
  refine W_seq rfl ?_
  refine W_reg rfl ?_
  refine Rv rfl rfl rfl (U_load2 rfl rfl rfl rfl) rfl rfl ?_
  refine Rv rfl rfl rfl (U_call rfl rfl (fineG_p p c _ (by assumption)) rfl) rfl rfl ?_
  refine Rv rfl rfl rfl (U_not rfl) rfl rfl ?_
  refine Re rfl ?_
  refine thenQ_n ?_
  refine Wcond rfl rfl (fun h => nomatch h) (fun _ => ?_)
  refine W_skip rfl ?_
  refine thenQ_n ?_
  refine W_seq rfl ?_
  refine W_reg rfl ?_
  refine Rv rfl rfl rfl (U_move rfl) rfl rfl ?_
  refine Rv rfl rfl rfl (U_call rfl rfl (kinds_p b (by assumption)) rfl) rfl rfl ?_
  refine Rv rfl rfl rfl (U_move rfl) rfl rfl ?_
  refine Rv rfl rfl rfl (U_move rfl) rfl rfl ?_
  refine Rv rfl rfl rfl (U_rem (c := ((m % 8 : Nat) : Int)) rfl rfl (by omega) (tmodN _ _)) rfl rfl ?_
  refine Rv rfl rfl rfl (U_shl rfl rfl (by omega) (shlN8 (n := 1) (i := m % 8) hsh (by omega))) rfl rfl ?_
  refine Rv rfl rfl rfl (U_or rfl rfl (orN8 (a := b) (b := 1 <<< (m % 8)) hb8 hsl)) rfl rfl ?_
  refine Rv rfl rfl rfl (U_call rfl rfl (kinds_p (b ||| (1 <<< (m % 8))) (by assumption)) rfl) rfl rfl ?_
  refine Rv rfl rfl rfl (U_assign rfl) rfl rfl ?_
  refine Rv rfl rfl rfl (U_assign rfl) rfl rfl ?_
  refine Re rfl ?_
  refine thenQ_n ?_
  refine W_seq rfl ?_
  refine W_reg rfl ?_
  refine Rv rfl rfl rfl (U_move rfl) rfl rfl ?_
  refine Rv rfl rfl rfl (U_convInt (by rfl) rfl (wr_i64 (by omega) (by omega))) rfl rfl ?_
  refine Rv rfl rfl rfl (U_rem (c := ((s % 5 : Nat) : Int)) rfl rfl (by omega) (tmodN _ _)) rfl rfl ?_
  refine Rv rfl rfl rfl (U_add rfl rfl (w64e (m := ((1 + s % 5 : Nat) : Int)) (by omega) (by omega) (by omega))) rfl rfl ?_
  refine Rv rfl rfl rfl (U_move rfl) rfl rfl ?_
  refine Rv rfl rfl rfl (U_convInt (by rfl) rfl (wr_i64 (by omega) (by omega))) rfl rfl ?_
  refine Rv rfl rfl rfl (U_rem (c := ((y % 4 : Nat) : Int)) rfl rfl (by omega) (tmodN _ _)) rfl rfl ?_
  refine Rv rfl rfl rfl (U_add rfl rfl (w64e (m := ((1 + y % 4 : Nat) : Int)) (by omega) (by omega) (by omega))) rfl rfl ?_
  refine Rv rfl rfl rfl (U_move rfl) rfl rfl ?_
  refine Rv rfl rfl rfl (U_rem (c := ((x % 8 : Nat) : Int)) rfl rfl (by omega) (tmodN _ _)) rfl rfl ?_
  refine Rv rfl rfl rfl (U_convInt (by rfl) rfl (wr_i64 (by omega) (by omega))) rfl rfl ?_
  refine Rv rfl rfl rfl (U_assign rfl) rfl rfl ?_
  refine Rv rfl rfl rfl (U_assign rfl) rfl rfl ?_
  refine Rv rfl rfl rfl (U_assign rfl) rfl rfl ?_
  refine Re rfl ?_
  refine thenQ_n ?_
  refine W_seq rfl ?_
  refine W_reg rfl ?_
  refine Rv rfl rfl rfl (U_move rfl) rfl rfl ?_
  refine Rv rfl rfl rfl (U_call rfl rfl (reachedG_p (kdsQ b) none (by assumption)) rfl) rfl rfl ?_
  refine Rv rfl rfl rfl (U_move rfl) rfl rfl ?_
  refine Rv rfl rfl rfl (U_extract rfl rfl) rfl rfl ?_
  refine Rv rfl rfl rfl (U_extract rfl rfl) rfl rfl ?_
  refine Rv rfl rfl rfl (U_assign rfl) rfl rfl ?_
  refine Rv rfl rfl rfl (U_assign rfl) rfl rfl ?_
  refine Re rfl ?_
  refine thenQ_n ?_
  refine W_seq rfl ?_
  refine W_reg rfl ?_
  refine Rv rfl rfl rfl (U_move rfl) rfl rfl ?_
  refine Rv rfl rfl rfl (U_call rfl rfl (reachedG_p (kdsQ (b ||| (1 <<< (m % 8)))) none (by assumption)) rfl) rfl rfl ?_
  refine Rv rfl rfl rfl (U_move rfl) rfl rfl ?_
  refine Rv rfl rfl rfl (U_extract rfl rfl) rfl rfl ?_
  refine Rv rfl rfl rfl (U_extract rfl rfl) rfl rfl ?_
  refine Rv rfl rfl rfl (U_assign rfl) rfl rfl ?_
  refine Rv rfl rfl rfl (U_assign rfl) rfl rfl ?_
  refine Re rfl ?_
  refine thenQ_n ?_
  refine W_seq rfl ?_
  refine W_seq rfl ?_
  refine W_reg rfl ?_
  refine Rv rfl rfl rfl (U_move rfl) rfl rfl ?_
  refine Rv rfl rfl rfl (U_not rfl) rfl rfl ?_
  refine Rv rfl rfl rfl (U_move rfl) rfl rfl ?_
  refine Rv rfl rfl rfl (U_move rfl) rfl rfl ?_
  refine Rv rfl rfl rfl (U_not rfl) rfl rfl ?_
  refine Rv rfl rfl rfl (U_pick_f rfl rfl) rfl rfl ?_
  refine Re rfl ?_
  refine thenQ_n ?_
  refine Wcond rfl rfl (fun h => nomatch h) (fun _ => ?_)
  refine W_skip rfl ?_
  refine thenQ_n ?_
  refine W_seq rfl ?_
  refine W_seq rfl ?_
  refine W_reg rfl ?_
  refine Rv rfl rfl rfl (U_assign rfl) rfl rfl ?_
  refine Re rfl ?_
  refine thenQ_n ?_
  refine W_block rfl ?_
  refine LoopTo (T' := [(6, .rop [i64 p.n, .ros (p.ds.map i64) p.ds.length c] 0), (13, .ros ((kdsQ b).map i64) ((kdsQ b).length) none), (14, .ros ((kdsQ (b ||| (1 <<< (m % 8)))).map i64) ((kdsQ (b ||| (1 <<< (m % 8)))).length) none), (15, i64 ((1 + s % 5 : Nat) : Int)), (16, i64 ((1 + y % 4 : Nat) : Int)), (17, i64 ((x % 8 : Nat) : Int)), (18, .ros ((reachedQ (kdsQ b)).map i64) ((reachedQ (kdsQ b)).length) none), (20, .ros ((reachedQ (kdsQ (b ||| (1 <<< (m % 8))))).map i64) ((reachedQ (kdsQ (b ||| (1 <<< (m % 8))))).length) none), (22, i64 ((0 : Nat) : Int))]) (H' := []) (n := 0) rfl (fun mz_ qz_ => ∃ (k : Nat), k ≤ (reachedQ (kdsQ b)).length ∧ mz_ = (reachedQ (kdsQ b)).length - k ∧ qz_ = ⟨[(6, .rop [i64 p.n, .ros (p.ds.map i64) p.ds.length c] 0), (13, .ros ((kdsQ b).map i64) ((kdsQ b).length) none), (14, .ros ((kdsQ (b ||| (1 <<< (m % 8)))).map i64) ((kdsQ (b ||| (1 <<< (m % 8)))).length) none), (15, i64 ((1 + s % 5 : Nat) : Int)), (16, i64 ((1 + y % 4 : Nat) : Int)), (17, i64 ((x % 8 : Nat) : Int)), (18, .ros ((reachedQ (kdsQ b)).map i64) ((reachedQ (kdsQ b)).length) none), (20, .ros ((reachedQ (kdsQ (b ||| (1 <<< (m % 8))))).map i64) ((reachedQ (kdsQ (b ||| (1 <<< (m % 8))))).length) none), (22, i64 ((k : Nat) : Int))], [], 0, []⟩) ⟨0, (by omega), rfl, rfl⟩ id ⟨eD rfl rfl, eD rfl rfl, eD rfl rfl, eD rfl rfl, eD rfl rfl, eD rfl rfl, eD rfl rfl, eD rfl rfl, eD rfl rfl, trivial⟩ trivial rfl rfl rfl rfl (fun _ _ => rfl) ?_
  rintro _ _ ⟨k, hi0_0, rfl, rfl⟩
  refine W_seq rfl ?_
  refine W_seq rfl ?_
  refine W_reg rfl ?_
  refine Rv rfl rfl rfl (U_move rfl) rfl rfl ?_
  refine Rv rfl rfl rfl (U_move rfl) rfl rfl ?_
  refine Rv rfl rfl rfl (U_lenOf rfl len_ros) rfl rfl ?_
  refine Rv rfl rfl rfl (U_lss rfl rfl) rfl rfl ?_
  refine Re rfl ?_
  refine thenQ_n ?_
  refine WcondP rfl rfl (fun hc2 => ?_) (fun hc2 => ?_)
  · have hck : k < (reachedQ (kdsQ b)).length := by omega
    have hmem := hgs _ (List.getElem_mem hck)
    refine W_skip rfl ?_
    refine thenQ_n ?_
    refine W_seq rfl ?_
    refine W_block rfl ?_
    refine W_seq rfl ?_
    refine W_reg rfl ?_
    refine Rv rfl rfl rfl (U_move rfl) rfl rfl ?_
    refine Rv rfl rfl rfl (U_move rfl) rfl rfl ?_
    refine Rv rfl rfl rfl (U_move rfl) rfl rfl ?_
    have hx1 : k < (reachedQ (kdsQ b)).length := by omega
    refine Rv rfl rfl rfl (U_indexR (j := k) rfl rfl rfl hx1) rfl rfl ?_
    refine Rv rfl rfl rfl (U_load1 rfl rfl (getM hx1)) rfl rfl ?_
    refine Rv rfl rfl rfl (U_call rfl rfl (hasT_p (reachedQ (kdsQ (b ||| (1 <<< (m % 8))))) ((reachedQ (kdsQ b))[k]) none (by omega) (by assumption)) rfl) rfl rfl ?_
    refine Rv rfl rfl rfl (U_not rfl) rfl rfl ?_
    refine Re rfl ?_
    refine thenQ_n ?_
    refine Wcond rfl rfl (fun h => nomatch h) (fun _ => ?_)
    refine W_skip rfl ?_
    refine blkQ_n ?_
    refine thenQ_n ?_
    refine W_reg rfl ?_
    refine Rv rfl rfl rfl (U_move rfl) rfl rfl ?_
    refine Rv rfl rfl rfl (U_add rfl rfl (w64e (m := ((k + 1 : Nat) : Int)) (by omega) (by omega) (by omega))) rfl rfl ?_
    refine Rv rfl rfl rfl (U_assign rfl) rfl rfl ?_
    refine Re rfl ?_
    refine thenQ_n ?_
    exact againTo (T' := [(6, .rop [i64 p.n, .ros (p.ds.map i64) p.ds.length c] 0), (13, .ros ((kdsQ b).map i64) ((kdsQ b).length) none), (14, .ros ((kdsQ (b ||| (1 <<< (m % 8)))).map i64) ((kdsQ (b ||| (1 <<< (m % 8)))).length) none), (15, i64 ((1 + s % 5 : Nat) : Int)), (16, i64 ((1 + y % 4 : Nat) : Int)), (17, i64 ((x % 8 : Nat) : Int)), (18, .ros ((reachedQ (kdsQ b)).map i64) ((reachedQ (kdsQ b)).length) none), (20, .ros ((reachedQ (kdsQ (b ||| (1 <<< (m % 8))))).map i64) ((reachedQ (kdsQ (b ||| (1 <<< (m % 8))))).length) none), (22, i64 (((k + 1) : Nat) : Int))]) (H' := []) (n := 0) ((reachedQ (kdsQ b)).length - (k + 1)) ⟨k + 1, (by omega), rfl, rfl⟩ (by omega) id ⟨eD rfl rfl, eD rfl rfl, eD rfl rfl, eD rfl rfl, eD rfl rfl, eD rfl rfl, eD rfl rfl, eD rfl rfl, eD rfl rfl, trivial⟩ trivial rfl rfl rfl rfl (fun _ _ => rfl)
  · refine W_exit rfl ?_
    refine thenQ_x ?_
    refine thenQ_x ?_
    refine blkQ_x rfl ?_
    refine thenQ_n ?_
    refine W_seq rfl ?_
    refine W_reg rfl ?_
    refine Rv rfl rfl rfl (U_move rfl) rfl rfl ?_
    refine Rv rfl rfl rfl (U_move rfl) rfl rfl ?_
    refine Rv rfl rfl rfl (U_move rfl) rfl rfl ?_
    refine Rv rfl rfl rfl (U_call rfl rfl (countG_p (1 + s % 5) (1 + y % 4) (by omega) (by omega) (kdsQ b) none (by assumption)) rfl) rfl rfl ?_
    refine Rv rfl rfl rfl (U_move rfl) rfl rfl ?_
    refine Rv rfl rfl rfl (U_extract rfl rfl) rfl rfl ?_
    refine Rv rfl rfl rfl (U_extract rfl rfl) rfl rfl ?_
    refine Rv rfl rfl rfl (U_assign rfl) rfl rfl ?_
    refine Rv rfl rfl rfl (U_assign rfl) rfl rfl ?_
    refine Re rfl ?_
    refine thenQ_n ?_
    refine W_seq rfl ?_
    refine W_reg rfl ?_
    refine Rv rfl rfl rfl (U_move rfl) rfl rfl ?_
    refine Rv rfl rfl rfl (U_move rfl) rfl rfl ?_
    refine Rv rfl rfl rfl (U_move rfl) rfl rfl ?_
    refine Rv rfl rfl rfl (U_call rfl rfl (countG_p (1 + s % 5) (1 + y % 4) (by omega) (by omega) (kdsQ (b ||| (1 <<< (m % 8)))) none (by assumption)) rfl) rfl rfl ?_
    refine Rv rfl rfl rfl (U_move rfl) rfl rfl ?_
    refine Rv rfl rfl rfl (U_extract rfl rfl) rfl rfl ?_
    refine Rv rfl rfl rfl (U_extract rfl rfl) rfl rfl ?_
    refine Rv rfl rfl rfl (U_assign rfl) rfl rfl ?_
    refine Rv rfl rfl rfl (U_assign rfl) rfl rfl ?_
    refine Re rfl ?_
    refine thenQ_n ?_
    refine W_seq rfl ?_
    refine W_reg rfl ?_
    refine Rv rfl rfl rfl (U_load2 rfl rfl rfl rfl) rfl rfl ?_
    refine Rv rfl rfl rfl (U_move rfl) rfl rfl ?_
    refine Rv rfl rfl rfl (U_call rfl rfl (leastG_p p c _ (by assumption) (kdsQ b) none (by assumption)) rfl) rfl rfl ?_
    refine Rv rfl rfl rfl (U_move rfl) rfl rfl ?_
    refine Rv rfl rfl rfl (U_extract rfl rfl) rfl rfl ?_
    refine Rv rfl rfl rfl (U_extract rfl rfl) rfl rfl ?_
    refine Rv rfl rfl rfl (U_extract rfl rfl) rfl rfl ?_
    refine Ra rfl rfl rfl (U_alloc) rfl rfl rfl ?_
    refine Rn rfl rfl rfl (U_storeAll rfl rfl rfl rfl rfl rfl) rfl ?_
    refine Rv rfl rfl rfl (U_assign rfl) rfl rfl ?_
    refine Rv rfl rfl rfl (U_assign rfl) rfl rfl ?_
    refine Re rfl ?_
    refine thenQ_n ?_
    refine WfrN 0 rfl rfl (T' := [(6, .rop [i64 p.n, .ros (p.ds.map i64) p.ds.length c] 0), (13, .ros ((kdsQ b).map i64) ((kdsQ b).length) none), (14, .ros ((kdsQ (b ||| (1 <<< (m % 8)))).map i64) ((kdsQ (b ||| (1 <<< (m % 8)))).length) none), (17, i64 ((x % 8 : Nat) : Int)), (18, .ros ((reachedQ (kdsQ b)).map i64) ((reachedQ (kdsQ b)).length) none), (20, .ros ((reachedQ (kdsQ (b ||| (1 <<< (m % 8))))).map i64) ((reachedQ (kdsQ (b ||| (1 <<< (m % 8))))).length) none), (23, i64 ((cntT (1 + s % 5) (1 + y % 4) (reachedQ (kdsQ b)) : Nat) : Int)), (24, i64 0), (25, i64 ((cntT (1 + s % 5) (1 + y % 4) (reachedQ (kdsQ (b ||| (1 <<< (m % 8))))) : Nat) : Int)), (26, i64 0), (27, .rop [i64 ((movP p (lsM p (kdsQ b))).n), .ros (((movP p (lsM p (kdsQ b))).ds).map i64) (((movP p (lsM p (kdsQ b))).ds).length) none] 0), (29, i64 0)]) (H' := []) ⟨⟨_, rfl, rfl⟩, ⟨_, rfl, rfl⟩, ⟨_, rfl, rfl⟩, ⟨_, rfl, rfl⟩, ⟨_, rfl, rfl⟩, ⟨_, rfl, rfl⟩, ⟨_, rfl, rfl⟩, ⟨_, rfl, rfl⟩, ⟨_, rfl, rfl⟩, ⟨_, rfl, rfl⟩, ⟨_, rfl, rfl⟩, ⟨_, rfl, rfl⟩, trivial⟩ trivial ?_
    refine W_seq rfl ?_
    refine W_reg rfl ?_
    refine Rv rfl rfl rfl (U_load2 rfl rfl rfl rfl) rfl rfl ?_
    refine Rv rfl rfl rfl (U_move rfl) rfl rfl ?_
    refine Rv rfl rfl rfl (U_call rfl rfl (leastG_p p c _ (by assumption) (kdsQ (b ||| (1 <<< (m % 8)))) none (by assumption)) rfl) rfl rfl ?_
    refine Rv rfl rfl rfl (U_move rfl) rfl rfl ?_
    refine Rv rfl rfl rfl (U_extract rfl rfl) rfl rfl ?_
    refine Rv rfl rfl rfl (U_extract rfl rfl) rfl rfl ?_
    refine Rv rfl rfl rfl (U_extract rfl rfl) rfl rfl ?_
    refine Ra rfl rfl rfl (U_alloc) rfl rfl rfl ?_
    refine Rn rfl rfl rfl (U_storeAll rfl rfl rfl rfl rfl rfl) rfl ?_
    refine Rv rfl rfl rfl (U_assign rfl) rfl rfl ?_
    refine Rv rfl rfl rfl (U_assign rfl) rfl rfl ?_
    refine Re rfl ?_
    refine thenQ_n ?_
    refine WfrN 1 rfl rfl (T' := [(13, .ros ((kdsQ b).map i64) ((kdsQ b).length) none), (14, .ros ((kdsQ (b ||| (1 <<< (m % 8)))).map i64) ((kdsQ (b ||| (1 <<< (m % 8)))).length) none), (17, i64 ((x % 8 : Nat) : Int)), (18, .ros ((reachedQ (kdsQ b)).map i64) ((reachedQ (kdsQ b)).length) none), (20, .ros ((reachedQ (kdsQ (b ||| (1 <<< (m % 8))))).map i64) ((reachedQ (kdsQ (b ||| (1 <<< (m % 8))))).length) none), (23, i64 ((cntT (1 + s % 5) (1 + y % 4) (reachedQ (kdsQ b)) : Nat) : Int)), (24, i64 0), (25, i64 ((cntT (1 + s % 5) (1 + y % 4) (reachedQ (kdsQ (b ||| (1 <<< (m % 8))))) : Nat) : Int)), (26, i64 0), (27, .rop [i64 ((movP p (lsM p (kdsQ b))).n), .ros (((movP p (lsM p (kdsQ b))).ds).map i64) (((movP p (lsM p (kdsQ b))).ds).length) none] 0), (29, i64 0), (30, .rop [i64 ((movP p (lsM p (kdsQ (b ||| (1 <<< (m % 8)))))).n), .ros (((movP p (lsM p (kdsQ (b ||| (1 <<< (m % 8)))))).ds).map i64) (((movP p (lsM p (kdsQ (b ||| (1 <<< (m % 8)))))).ds).length) none] 0), (32, i64 0)]) (H' := []) ⟨⟨_, rfl, rfl⟩, ⟨_, rfl, rfl⟩, ⟨_, rfl, rfl⟩, ⟨_, rfl, rfl⟩, ⟨_, rfl, rfl⟩, ⟨_, rfl, rfl⟩, ⟨_, rfl, rfl⟩, ⟨_, rfl, rfl⟩, ⟨_, rfl, rfl⟩, ⟨_, rfl, rfl⟩, ⟨_, rfl, rfl⟩, ⟨_, rfl, rfl⟩, ⟨_, rfl, rfl⟩, trivial⟩ trivial ?_
    refine W_seq rfl ?_
    refine W_reg rfl ?_
    refine Rv rfl rfl rfl (U_move rfl) rfl rfl ?_
    refine Rv rfl rfl rfl (U_move rfl) rfl rfl ?_
    refine Rv rfl rfl rfl (U_call rfl rfl (planA20_p (kdsQ b) none (by assumption) ((x % 8 : Nat) : Int) hmo hA) rfl) rfl rfl ?_
    refine Rv rfl rfl rfl (U_move rfl) rfl rfl ?_
    refine Rv rfl rfl rfl (U_extract rfl rfl) rfl rfl ?_
    refine Rv rfl rfl rfl (U_extract rfl rfl) rfl rfl ?_
    refine Rv rfl rfl rfl (U_assign rfl) rfl rfl ?_
    refine Rv rfl rfl rfl (U_assign rfl) rfl rfl ?_
    refine Re rfl ?_
    refine thenQ_n ?_
    refine W_seq rfl ?_
    refine W_reg rfl ?_
    refine Rv rfl rfl rfl (U_move rfl) rfl rfl ?_
    refine Rv rfl rfl rfl (U_move rfl) rfl rfl ?_
    refine Rv rfl rfl rfl (U_call rfl rfl (planAQ_p (kdsQ (b ||| 1 <<< (m % 8))) none (by assumption) ((x % 8 : Nat) : Int) hmo hB) rfl) rfl rfl ?_
    refine Rv rfl rfl rfl (U_move rfl) rfl rfl ?_
    refine Rv rfl rfl rfl (U_extract rfl rfl) rfl rfl ?_
    refine Rv rfl rfl rfl (U_extract rfl rfl) rfl rfl ?_
    refine Rv rfl rfl rfl (U_assign rfl) rfl rfl ?_
    refine Rv rfl rfl rfl (U_assign rfl) rfl rfl ?_
    refine Re rfl ?_
    refine thenQ_n ?_
    refine W_seq rfl ?_
    refine W_seq rfl ?_
    refine W_reg rfl ?_
    refine Rv rfl rfl rfl (U_move rfl) rfl rfl ?_
    refine Rv rfl rfl rfl (U_neq rfl rfl) rfl rfl ?_
    refine Rv rfl rfl rfl (U_move rfl) rfl rfl ?_
    refine Rv rfl rfl rfl (U_move rfl) rfl rfl ?_
    refine Rv rfl rfl rfl (U_neq rfl rfl) rfl rfl ?_
    refine Rv rfl rfl rfl (U_pick_f rfl rfl) rfl rfl ?_
    refine Rv rfl rfl rfl (U_move rfl) rfl rfl ?_
    refine Rv rfl rfl rfl (U_move rfl) rfl rfl ?_
    refine Rv rfl rfl rfl (U_neq rfl rfl) rfl rfl ?_
    refine Rv rfl rfl rfl (U_pick_f rfl rfl) rfl rfl ?_
    refine Rv rfl rfl rfl (U_move rfl) rfl rfl ?_
    refine Rv rfl rfl rfl (U_move rfl) rfl rfl ?_
    refine Rv rfl rfl rfl (U_neq rfl rfl) rfl rfl ?_
    refine Rv rfl rfl rfl (U_pick_f rfl rfl) rfl rfl ?_
    refine Rv rfl rfl rfl (U_move rfl) rfl rfl ?_
    refine Rv rfl rfl rfl (U_move rfl) rfl rfl ?_
    refine Rv rfl rfl rfl (U_move rfl) rfl rfl ?_
    refine Rv rfl rfl rfl (OpU.toB (U_gtr rfl rfl) (decide_eq_false (by omega))) rfl rfl ?_
    refine Rv rfl rfl rfl (U_pick_f rfl rfl) rfl rfl ?_
    refine Rv rfl rfl rfl (U_move rfl) rfl rfl ?_
    refine Rv rfl rfl rfl (U_fieldAddrR rfl) rfl rfl ?_
    refine Rv rfl rfl rfl (U_load1 rfl rfl rfl) rfl rfl ?_
    refine Rv rfl rfl rfl (U_fieldAddrR rfl) rfl rfl ?_
    refine Rv rfl rfl rfl (U_load1 rfl rfl rfl) rfl rfl ?_
    refine Rv rfl rfl rfl (U_call rfl rfl (behindF_p (movP p (lsM p (kdsQ (b ||| 1 <<< (m % 8))))).ds (movP p (lsM p (kdsQ b))).ds none none hll2 hll1 (by rw [movP_len, movP_len]) (ls_le (hgs _ ls_mem))) rfl) rfl rfl ?_
    refine Rv rfl rfl rfl (U_pick_f rfl rfl) rfl rfl ?_
    refine Re rfl ?_
    refine thenQ_n ?_
    refine Wcond rfl rfl (fun h => nomatch h) (fun _ => ?_)
    refine W_skip rfl ?_
    refine thenQ_n ?_
    refine W_seq rfl ?_
    refine W_reg rfl ?_
    refine Rv rfl rfl rfl (U_move rfl) rfl rfl ?_
    refine Rv rfl rfl rfl (U_neq rfl rfl) rfl rfl ?_
    refine Rv rfl rfl rfl (U_move rfl) rfl rfl ?_
    refine Rs rfl rfl rfl rfl rfl ?_
    refine Rs rfl rfl rfl rfl rfl ?_
    refine Rs rfl rfl rfl rfl rfl ?_
    refine Rs rfl rfl rfl rfl rfl ?_
    refine Rs rfl rfl rfl rfl rfl ?_
    refine Rs rfl rfl rfl rfl rfl ?_
    refine Rs rfl rfl rfl rfl rfl ?_
    refine Rs rfl rfl rfl rfl rfl ?_
    refine Rs rfl rfl rfl rfl rfl ?_
    refine Rv rfl rfl rfl (U_pick_t rfl rfl) rfl rfl ?_
    refine Rv rfl rfl rfl (U_move rfl) rfl rfl ?_
    refine Rv rfl rfl rfl (U_move rfl) rfl rfl ?_
    refine Rv rfl rfl rfl (U_eql rfl rfl) rfl rfl ?_
    refine Rv rfl rfl rfl (U_move rfl) rfl rfl ?_
    refine Rv rfl rfl rfl (U_move rfl) rfl rfl ?_
    refine Rv rfl rfl rfl (U_call rfl rfl (hasF_p (reachedQ (kdsQ b)) ((x % 8 : Nat) : Int) none (by omega) (fun h => (reached_iff hx8).1 h hA)) rfl) rfl rfl ?_
    refine Rv rfl rfl rfl (U_eqlB rfl rfl) rfl rfl ?_
    refine Rv rfl rfl rfl (U_pick_t rfl rfl) rfl rfl ?_
    refine Rv rfl rfl rfl (U_move rfl) rfl rfl ?_
    refine Rv rfl rfl rfl (U_move rfl) rfl rfl ?_
    refine Rv rfl rfl rfl (U_eql rfl rfl) rfl rfl ?_
    refine Rv rfl rfl rfl (U_move rfl) rfl rfl ?_
    refine Rv rfl rfl rfl (U_move rfl) rfl rfl ?_
    refine Rv rfl rfl rfl (U_call rfl rfl (hasT_p (reachedQ (kdsQ (b ||| 1 <<< (m % 8)))) ((x % 8 : Nat) : Int) none (by omega) ((reached_iff hx8).2 hB)) rfl) rfl rfl ?_
    refine Rv rfl rfl rfl (U_eqlB rfl rfl) rfl rfl ?_
    refine Rv rfl rfl rfl (U_pick_t rfl rfl) rfl rfl ?_
    refine Rv rfl rfl rfl (U_move rfl) rfl rfl ?_
    refine Rv rfl rfl rfl (U_call rfl rfl (works_p) rfl) rfl rfl ?_
    refine Rv rfl rfl rfl (U_pick_t rfl rfl) rfl rfl ?_
    refine Rv rfl rfl rfl (U_assign rfl) rfl rfl ?_
    refine Re rfl ?_
    refine thenQ_n ?_
    refine W_ret rfl ?_
    exact retL (rlT rfl rl0) rfl rfl
theorem plateMore3_p (p : Pl) (c : Option Nat) (b m x s y : Nat) (hb8 : b < 256) (hm8 : m < 256) (hx256 : x < 256) (hs256 : s < 256) (hy256 : y < 256) (N : Nat) (hv : VP p N) (hA : geN (heiQ (kdsQ b)) (((x % 8 : Nat) : Int)).toNat = 20) (hB : geN (heiQ (kdsQ (b ||| 1 <<< (m % 8)))) (((x % 8 : Nat) : Int)).toNat = 20) : Pure Try.prog 15 [plA p c, .int .u8 (b : Nat), .int .u8 (m : Nat), .int .u8 (x : Nat), .int .u8 (s : Nat), .int .u8 (y : Nat)] (.bool true) := by
  have hl1 := vp_mil hv
  obtain ⟨hsh, hsl⟩ := shl_lt m
  have hbw : (b ||| 1 <<< (m % 8)) < 256 := Nat.or_lt_two_pow (n := 8) hb8 hsl
  have hok := kds_ok b
  have hok2 := kds_ok (b ||| 1 <<< (m % 8))
  obtain ⟨hr0, hr8⟩ := reached_len (ks := (kdsQ b))
  obtain ⟨hs0, hs8⟩ := reached_len (ks := (kdsQ (b ||| 1 <<< (m % 8))))
  have hx8 : x % 8 < 8 := Nat.mod_lt x (by decide)
  have hmo : 0 ≤ ((x % 8 : Nat) : Int) ∧ ((x % 8 : Nat) : Int) < 8 := by omega
  have hsub : ∀ z ∈ (kdsQ b), z ∈ (kdsQ (b ||| 1 <<< (m % 8))) := fun z hz => kds_sub hz
  have hgs : ∀ z ∈ (reachedQ (kdsQ b)), z ∈ (reachedQ (kdsQ (b ||| 1 <<< (m % 8)))) := fun z hz => reached_mono hok hok2 hsub hz
  have hn5 : 1 ≤ 1 + s % 5 ∧ 1 + s % 5 ≤ 5 := by omega
  have ha4 : 1 ≤ 1 + y % 4 ∧ 1 + y % 4 ≤ 4 := by omega
  have hcm := cnt_mono (reach_G hok) (reach_G hok2) hgs hn5 ha4
  have hll1 := vp_mil (movP_vp hv (ls_in (p := p) (ks := (kdsQ b))))
  have hll2 := vp_mil (movP_vp hv (ls_in (p := p) (ks := (kdsQ (b ||| 1 <<< (m % 8))))))
  refine pure_of_body Try.func15 (c := body Try.f15) rfl (by simp [Try.ntmps15]) fun w0 Φ0 => ?_
  refine W_seq rfl ?_
  refine W_reg rfl ?_
  refine Rv rfl rfl rfl (U_boxF rfl rfl rfl) rfl rfl ?_
  refine Rv rfl rfl rfl (U_assign rfl) rfl rfl ?_
  refine Re rfl ?_
  refine thenQ_n ?_
  refine W_seq rfl ?_
  refine W_seq rfl ?_
  refine W_reg rfl ?_
  refine Rv rfl rfl rfl (U_load2 rfl rfl rfl rfl) rfl rfl ?_
  refine Rv rfl rfl rfl (U_call rfl rfl (fineG_p p c _ (by assumption)) rfl) rfl rfl ?_
  refine Rv rfl rfl rfl (U_not rfl) rfl rfl ?_
  refine Re rfl ?_
  refine thenQ_n ?_
  refine Wcond rfl rfl (fun h => nomatch h) (fun _ => ?_)
  refine W_skip rfl ?_
  refine thenQ_n ?_
  refine W_seq rfl ?_
  refine W_reg rfl ?_
  refine Rv rfl rfl rfl (U_move rfl) rfl rfl ?_
  refine Rv rfl rfl rfl (U_call rfl rfl (kinds_p b (by assumption)) rfl) rfl rfl ?_
  refine Rv rfl rfl rfl (U_move rfl) rfl rfl ?_
  refine Rv rfl rfl rfl (U_move rfl) rfl rfl ?_
  refine Rv rfl rfl rfl (U_rem (c := ((m % 8 : Nat) : Int)) rfl rfl (by omega) (tmodN _ _)) rfl rfl ?_
  refine Rv rfl rfl rfl (U_shl rfl rfl (by omega) (shlN8 (n := 1) (i := m % 8) hsh (by omega))) rfl rfl ?_
  refine Rv rfl rfl rfl (U_or rfl rfl (orN8 (a := b) (b := 1 <<< (m % 8)) hb8 hsl)) rfl rfl ?_
  refine Rv rfl rfl rfl (U_call rfl rfl (kinds_p (b ||| (1 <<< (m % 8))) (by assumption)) rfl) rfl rfl ?_
  refine Rv rfl rfl rfl (U_assign rfl) rfl rfl ?_
  refine Rv rfl rfl rfl (U_assign rfl) rfl rfl ?_
  refine Re rfl ?_
  refine thenQ_n ?_
  refine W_seq rfl ?_
  refine W_reg rfl ?_
  refine Rv rfl rfl rfl (U_move rfl) rfl rfl ?_
  refine Rv rfl rfl rfl (U_convInt (by rfl) rfl (wr_i64 (by omega) (by omega))) rfl rfl ?_
  refine Rv rfl rfl rfl (U_rem (c := ((s % 5 : Nat) : Int)) rfl rfl (by omega) (tmodN _ _)) rfl rfl ?_
  refine Rv rfl rfl rfl (U_add rfl rfl (w64e (m := ((1 + s % 5 : Nat) : Int)) (by omega) (by omega) (by omega))) rfl rfl ?_
  refine Rv rfl rfl rfl (U_move rfl) rfl rfl ?_
  refine Rv rfl rfl rfl (U_convInt (by rfl) rfl (wr_i64 (by omega) (by omega))) rfl rfl ?_
  refine Rv rfl rfl rfl (U_rem (c := ((y % 4 : Nat) : Int)) rfl rfl (by omega) (tmodN _ _)) rfl rfl ?_
  refine Rv rfl rfl rfl (U_add rfl rfl (w64e (m := ((1 + y % 4 : Nat) : Int)) (by omega) (by omega) (by omega))) rfl rfl ?_
  refine Rv rfl rfl rfl (U_move rfl) rfl rfl ?_
  refine Rv rfl rfl rfl (U_rem (c := ((x % 8 : Nat) : Int)) rfl rfl (by omega) (tmodN _ _)) rfl rfl ?_
  refine Rv rfl rfl rfl (U_convInt (by rfl) rfl (wr_i64 (by omega) (by omega))) rfl rfl ?_
  refine Rv rfl rfl rfl (U_assign rfl) rfl rfl ?_
  refine Rv rfl rfl rfl (U_assign rfl) rfl rfl ?_
  refine Rv rfl rfl rfl (U_assign rfl) rfl rfl ?_
  refine Re rfl ?_
  refine thenQ_n ?_
  refine W_seq rfl ?_
  refine W_reg rfl ?_
  refine Rv rfl rfl rfl (U_move rfl) rfl rfl ?_
  refine Rv rfl rfl rfl (U_call rfl rfl (reachedG_p (kdsQ b) none (by assumption)) rfl) rfl rfl ?_
  refine Rv rfl rfl rfl (U_move rfl) rfl rfl ?_
  refine Rv rfl rfl rfl (U_extract rfl rfl) rfl rfl ?_
  refine Rv rfl rfl rfl (U_extract rfl rfl) rfl rfl ?_
  refine Rv rfl rfl rfl (U_assign rfl) rfl rfl ?_
  refine Rv rfl rfl rfl (U_assign rfl) rfl rfl ?_
  refine Re rfl ?_
  refine thenQ_n ?_
  refine W_seq rfl ?_
  refine W_reg rfl ?_
  refine Rv rfl rfl rfl (U_move rfl) rfl rfl ?_
  refine Rv rfl rfl rfl (U_call rfl rfl (reachedG_p (kdsQ (b ||| (1 <<< (m % 8)))) none (by assumption)) rfl) rfl rfl ?_
  refine Rv rfl rfl rfl (U_move rfl) rfl rfl ?_
  refine Rv rfl rfl rfl (U_extract rfl rfl) rfl rfl ?_
  refine Rv rfl rfl rfl (U_extract rfl rfl) rfl rfl ?_
  refine Rv rfl rfl rfl (U_assign rfl) rfl rfl ?_
  refine Rv rfl rfl rfl (U_assign rfl) rfl rfl ?_
  refine Re rfl ?_
  refine thenQ_n ?_
  refine W_seq rfl ?_
  refine W_seq rfl ?_
  refine W_reg rfl ?_
  refine Rv rfl rfl rfl (U_move rfl) rfl rfl ?_
  refine Rv rfl rfl rfl (U_not rfl) rfl rfl ?_
  refine Rv rfl rfl rfl (U_move rfl) rfl rfl ?_
  refine Rv rfl rfl rfl (U_move rfl) rfl rfl ?_
  refine Rv rfl rfl rfl (U_not rfl) rfl rfl ?_
  refine Rv rfl rfl rfl (U_pick_f rfl rfl) rfl rfl ?_
  refine Re rfl ?_
  refine thenQ_n ?_
  refine Wcond rfl rfl (fun h => nomatch h) (fun _ => ?_)
  refine W_skip rfl ?_
  refine thenQ_n ?_
  refine W_seq rfl ?_
  refine W_seq rfl ?_
  refine W_reg rfl ?_
  refine Rv rfl rfl rfl (U_assign rfl) rfl rfl ?_
  refine Re rfl ?_
  refine thenQ_n ?_
  refine W_block rfl ?_
  refine LoopTo (T' := [(6, .rop [i64 p.n, .ros (p.ds.map i64) p.ds.length c] 0), (13, .ros ((kdsQ b).map i64) ((kdsQ b).length) none), (14, .ros ((kdsQ (b ||| (1 <<< (m % 8)))).map i64) ((kdsQ (b ||| (1 <<< (m % 8)))).length) none), (15, i64 ((1 + s % 5 : Nat) : Int)), (16, i64 ((1 + y % 4 : Nat) : Int)), (17, i64 ((x % 8 : Nat) : Int)), (18, .ros ((reachedQ (kdsQ b)).map i64) ((reachedQ (kdsQ b)).length) none), (20, .ros ((reachedQ (kdsQ (b ||| (1 <<< (m % 8))))).map i64) ((reachedQ (kdsQ (b ||| (1 <<< (m % 8))))).length) none), (22, i64 ((0 : Nat) : Int))]) (H' := []) (n := 0) rfl (fun mz_ qz_ => ∃ (k : Nat), k ≤ (reachedQ (kdsQ b)).length ∧ mz_ = (reachedQ (kdsQ b)).length - k ∧ qz_ = ⟨[(6, .rop [i64 p.n, .ros (p.ds.map i64) p.ds.length c] 0), (13, .ros ((kdsQ b).map i64) ((kdsQ b).length) none), (14, .ros ((kdsQ (b ||| (1 <<< (m % 8)))).map i64) ((kdsQ (b ||| (1 <<< (m % 8)))).length) none), (15, i64 ((1 + s % 5 : Nat) : Int)), (16, i64 ((1 + y % 4 : Nat) : Int)), (17, i64 ((x % 8 : Nat) : Int)), (18, .ros ((reachedQ (kdsQ b)).map i64) ((reachedQ (kdsQ b)).length) none), (20, .ros ((reachedQ (kdsQ (b ||| (1 <<< (m % 8))))).map i64) ((reachedQ (kdsQ (b ||| (1 <<< (m % 8))))).length) none), (22, i64 ((k : Nat) : Int))], [], 0, []⟩) ⟨0, (by omega), rfl, rfl⟩ id ⟨eD rfl rfl, eD rfl rfl, eD rfl rfl, eD rfl rfl, eD rfl rfl, eD rfl rfl, eD rfl rfl, eD rfl rfl, eD rfl rfl, trivial⟩ trivial rfl rfl rfl rfl (fun _ _ => rfl) ?_
  rintro _ _ ⟨k, hi0_0, rfl, rfl⟩
  refine W_seq rfl ?_
  refine W_seq rfl ?_
  refine W_reg rfl ?_
  refine Rv rfl rfl rfl (U_move rfl) rfl rfl ?_
  refine Rv rfl rfl rfl (U_move rfl) rfl rfl ?_
  refine Rv rfl rfl rfl (U_lenOf rfl len_ros) rfl rfl ?_
  refine Rv rfl rfl rfl (U_lss rfl rfl) rfl rfl ?_
  refine Re rfl ?_
  refine thenQ_n ?_
  refine WcondP rfl rfl (fun hc2 => ?_) (fun hc2 => ?_)
  · have hck : k < (reachedQ (kdsQ b)).length := by omega
    have hmem := hgs _ (List.getElem_mem hck)
    refine W_skip rfl ?_
    refine thenQ_n ?_
    refine W_seq rfl ?_
    refine W_block rfl ?_
    refine W_seq rfl ?_
    refine W_reg rfl ?_
    refine Rv rfl rfl rfl (U_move rfl) rfl rfl ?_
    refine Rv rfl rfl rfl (U_move rfl) rfl rfl ?_
    refine Rv rfl rfl rfl (U_move rfl) rfl rfl ?_
    have hx1 : k < (reachedQ (kdsQ b)).length := by omega
    refine Rv rfl rfl rfl (U_indexR (j := k) rfl rfl rfl hx1) rfl rfl ?_
    refine Rv rfl rfl rfl (U_load1 rfl rfl (getM hx1)) rfl rfl ?_
    refine Rv rfl rfl rfl (U_call rfl rfl (hasT_p (reachedQ (kdsQ (b ||| (1 <<< (m % 8))))) ((reachedQ (kdsQ b))[k]) none (by omega) (by assumption)) rfl) rfl rfl ?_
    refine Rv rfl rfl rfl (U_not rfl) rfl rfl ?_
    refine Re rfl ?_
    refine thenQ_n ?_
    refine Wcond rfl rfl (fun h => nomatch h) (fun _ => ?_)
    refine W_skip rfl ?_
    refine blkQ_n ?_
    refine thenQ_n ?_
    refine W_reg rfl ?_
    refine Rv rfl rfl rfl (U_move rfl) rfl rfl ?_
    refine Rv rfl rfl rfl (U_add rfl rfl (w64e (m := ((k + 1 : Nat) : Int)) (by omega) (by omega) (by omega))) rfl rfl ?_
    refine Rv rfl rfl rfl (U_assign rfl) rfl rfl ?_
    refine Re rfl ?_
    refine thenQ_n ?_
    exact againTo (T' := [(6, .rop [i64 p.n, .ros (p.ds.map i64) p.ds.length c] 0), (13, .ros ((kdsQ b).map i64) ((kdsQ b).length) none), (14, .ros ((kdsQ (b ||| (1 <<< (m % 8)))).map i64) ((kdsQ (b ||| (1 <<< (m % 8)))).length) none), (15, i64 ((1 + s % 5 : Nat) : Int)), (16, i64 ((1 + y % 4 : Nat) : Int)), (17, i64 ((x % 8 : Nat) : Int)), (18, .ros ((reachedQ (kdsQ b)).map i64) ((reachedQ (kdsQ b)).length) none), (20, .ros ((reachedQ (kdsQ (b ||| (1 <<< (m % 8))))).map i64) ((reachedQ (kdsQ (b ||| (1 <<< (m % 8))))).length) none), (22, i64 (((k + 1) : Nat) : Int))]) (H' := []) (n := 0) ((reachedQ (kdsQ b)).length - (k + 1)) ⟨k + 1, (by omega), rfl, rfl⟩ (by omega) id ⟨eD rfl rfl, eD rfl rfl, eD rfl rfl, eD rfl rfl, eD rfl rfl, eD rfl rfl, eD rfl rfl, eD rfl rfl, eD rfl rfl, trivial⟩ trivial rfl rfl rfl rfl (fun _ _ => rfl)
  · refine W_exit rfl ?_
    refine thenQ_x ?_
    refine thenQ_x ?_
    refine blkQ_x rfl ?_
    refine thenQ_n ?_
    refine W_seq rfl ?_
    refine W_reg rfl ?_
    refine Rv rfl rfl rfl (U_move rfl) rfl rfl ?_
    refine Rv rfl rfl rfl (U_move rfl) rfl rfl ?_
    refine Rv rfl rfl rfl (U_move rfl) rfl rfl ?_
    refine Rv rfl rfl rfl (U_call rfl rfl (countG_p (1 + s % 5) (1 + y % 4) (by omega) (by omega) (kdsQ b) none (by assumption)) rfl) rfl rfl ?_
    refine Rv rfl rfl rfl (U_move rfl) rfl rfl ?_
    refine Rv rfl rfl rfl (U_extract rfl rfl) rfl rfl ?_
    refine Rv rfl rfl rfl (U_extract rfl rfl) rfl rfl ?_
    refine Rv rfl rfl rfl (U_assign rfl) rfl rfl ?_
    refine Rv rfl rfl rfl (U_assign rfl) rfl rfl ?_
    refine Re rfl ?_
    refine thenQ_n ?_
    refine W_seq rfl ?_
    refine W_reg rfl ?_
    refine Rv rfl rfl rfl (U_move rfl) rfl rfl ?_
    refine Rv rfl rfl rfl (U_move rfl) rfl rfl ?_
    refine Rv rfl rfl rfl (U_move rfl) rfl rfl ?_
    refine Rv rfl rfl rfl (U_call rfl rfl (countG_p (1 + s % 5) (1 + y % 4) (by omega) (by omega) (kdsQ (b ||| (1 <<< (m % 8)))) none (by assumption)) rfl) rfl rfl ?_
    refine Rv rfl rfl rfl (U_move rfl) rfl rfl ?_
    refine Rv rfl rfl rfl (U_extract rfl rfl) rfl rfl ?_
    refine Rv rfl rfl rfl (U_extract rfl rfl) rfl rfl ?_
    refine Rv rfl rfl rfl (U_assign rfl) rfl rfl ?_
    refine Rv rfl rfl rfl (U_assign rfl) rfl rfl ?_
    refine Re rfl ?_
    refine thenQ_n ?_
    refine W_seq rfl ?_
    refine W_reg rfl ?_
    refine Rv rfl rfl rfl (U_load2 rfl rfl rfl rfl) rfl rfl ?_
    refine Rv rfl rfl rfl (U_move rfl) rfl rfl ?_
    refine Rv rfl rfl rfl (U_call rfl rfl (leastG_p p c _ (by assumption) (kdsQ b) none (by assumption)) rfl) rfl rfl ?_
    refine Rv rfl rfl rfl (U_move rfl) rfl rfl ?_
    refine Rv rfl rfl rfl (U_extract rfl rfl) rfl rfl ?_
    refine Rv rfl rfl rfl (U_extract rfl rfl) rfl rfl ?_
    refine Rv rfl rfl rfl (U_extract rfl rfl) rfl rfl ?_
    refine Ra rfl rfl rfl (U_alloc) rfl rfl rfl ?_
    refine Rn rfl rfl rfl (U_storeAll rfl rfl rfl rfl rfl rfl) rfl ?_
    refine Rv rfl rfl rfl (U_assign rfl) rfl rfl ?_
    refine Rv rfl rfl rfl (U_assign rfl) rfl rfl ?_
    refine Re rfl ?_
    refine thenQ_n ?_
    refine WfrN 0 rfl rfl (T' := [(6, .rop [i64 p.n, .ros (p.ds.map i64) p.ds.length c] 0), (13, .ros ((kdsQ b).map i64) ((kdsQ b).length) none), (14, .ros ((kdsQ (b ||| (1 <<< (m % 8)))).map i64) ((kdsQ (b ||| (1 <<< (m % 8)))).length) none), (17, i64 ((x % 8 : Nat) : Int)), (18, .ros ((reachedQ (kdsQ b)).map i64) ((reachedQ (kdsQ b)).length) none), (20, .ros ((reachedQ (kdsQ (b ||| (1 <<< (m % 8))))).map i64) ((reachedQ (kdsQ (b ||| (1 <<< (m % 8))))).length) none), (23, i64 ((cntT (1 + s % 5) (1 + y % 4) (reachedQ (kdsQ b)) : Nat) : Int)), (24, i64 0), (25, i64 ((cntT (1 + s % 5) (1 + y % 4) (reachedQ (kdsQ (b ||| (1 <<< (m % 8))))) : Nat) : Int)), (26, i64 0), (27, .rop [i64 ((movP p (lsM p (kdsQ b))).n), .ros (((movP p (lsM p (kdsQ b))).ds).map i64) (((movP p (lsM p (kdsQ b))).ds).length) none] 0), (29, i64 0)]) (H' := []) ⟨⟨_, rfl, rfl⟩, ⟨_, rfl, rfl⟩, ⟨_, rfl, rfl⟩, ⟨_, rfl, rfl⟩, ⟨_, rfl, rfl⟩, ⟨_, rfl, rfl⟩, ⟨_, rfl, rfl⟩, ⟨_, rfl, rfl⟩, ⟨_, rfl, rfl⟩, ⟨_, rfl, rfl⟩, ⟨_, rfl, rfl⟩, ⟨_, rfl, rfl⟩, trivial⟩ trivial ?_
    refine W_seq rfl ?_
    refine W_reg rfl ?_
    refine Rv rfl rfl rfl (U_load2 rfl rfl rfl rfl) rfl rfl ?_
    refine Rv rfl rfl rfl (U_move rfl) rfl rfl ?_
    refine Rv rfl rfl rfl (U_call rfl rfl (leastG_p p c _ (by assumption) (kdsQ (b ||| (1 <<< (m % 8)))) none (by assumption)) rfl) rfl rfl ?_
    refine Rv rfl rfl rfl (U_move rfl) rfl rfl ?_
    refine Rv rfl rfl rfl (U_extract rfl rfl) rfl rfl ?_
    refine Rv rfl rfl rfl (U_extract rfl rfl) rfl rfl ?_
    refine Rv rfl rfl rfl (U_extract rfl rfl) rfl rfl ?_
    refine Ra rfl rfl rfl (U_alloc) rfl rfl rfl ?_
    refine Rn rfl rfl rfl (U_storeAll rfl rfl rfl rfl rfl rfl) rfl ?_
    refine Rv rfl rfl rfl (U_assign rfl) rfl rfl ?_
    refine Rv rfl rfl rfl (U_assign rfl) rfl rfl ?_
    refine Re rfl ?_
    refine thenQ_n ?_
    refine WfrN 1 rfl rfl (T' := [(13, .ros ((kdsQ b).map i64) ((kdsQ b).length) none), (14, .ros ((kdsQ (b ||| (1 <<< (m % 8)))).map i64) ((kdsQ (b ||| (1 <<< (m % 8)))).length) none), (17, i64 ((x % 8 : Nat) : Int)), (18, .ros ((reachedQ (kdsQ b)).map i64) ((reachedQ (kdsQ b)).length) none), (20, .ros ((reachedQ (kdsQ (b ||| (1 <<< (m % 8))))).map i64) ((reachedQ (kdsQ (b ||| (1 <<< (m % 8))))).length) none), (23, i64 ((cntT (1 + s % 5) (1 + y % 4) (reachedQ (kdsQ b)) : Nat) : Int)), (24, i64 0), (25, i64 ((cntT (1 + s % 5) (1 + y % 4) (reachedQ (kdsQ (b ||| (1 <<< (m % 8))))) : Nat) : Int)), (26, i64 0), (27, .rop [i64 ((movP p (lsM p (kdsQ b))).n), .ros (((movP p (lsM p (kdsQ b))).ds).map i64) (((movP p (lsM p (kdsQ b))).ds).length) none] 0), (29, i64 0), (30, .rop [i64 ((movP p (lsM p (kdsQ (b ||| (1 <<< (m % 8)))))).n), .ros (((movP p (lsM p (kdsQ (b ||| (1 <<< (m % 8)))))).ds).map i64) (((movP p (lsM p (kdsQ (b ||| (1 <<< (m % 8)))))).ds).length) none] 0), (32, i64 0)]) (H' := []) ⟨⟨_, rfl, rfl⟩, ⟨_, rfl, rfl⟩, ⟨_, rfl, rfl⟩, ⟨_, rfl, rfl⟩, ⟨_, rfl, rfl⟩, ⟨_, rfl, rfl⟩, ⟨_, rfl, rfl⟩, ⟨_, rfl, rfl⟩, ⟨_, rfl, rfl⟩, ⟨_, rfl, rfl⟩, ⟨_, rfl, rfl⟩, ⟨_, rfl, rfl⟩, ⟨_, rfl, rfl⟩, trivial⟩ trivial ?_
    refine W_seq rfl ?_
    refine W_reg rfl ?_
    refine Rv rfl rfl rfl (U_move rfl) rfl rfl ?_
    refine Rv rfl rfl rfl (U_move rfl) rfl rfl ?_
    refine Rv rfl rfl rfl (U_call rfl rfl (planA20_p (kdsQ b) none (by assumption) ((x % 8 : Nat) : Int) hmo hA) rfl) rfl rfl ?_
    refine Rv rfl rfl rfl (U_move rfl) rfl rfl ?_
    refine Rv rfl rfl rfl (U_extract rfl rfl) rfl rfl ?_
    refine Rv rfl rfl rfl (U_extract rfl rfl) rfl rfl ?_
    refine Rv rfl rfl rfl (U_assign rfl) rfl rfl ?_
    refine Rv rfl rfl rfl (U_assign rfl) rfl rfl ?_
    refine Re rfl ?_
    refine thenQ_n ?_
    refine W_seq rfl ?_
    refine W_reg rfl ?_
    refine Rv rfl rfl rfl (U_move rfl) rfl rfl ?_
    refine Rv rfl rfl rfl (U_move rfl) rfl rfl ?_
    refine Rv rfl rfl rfl (U_call rfl rfl (planA20_p (kdsQ (b ||| 1 <<< (m % 8))) none (by assumption) ((x % 8 : Nat) : Int) hmo hB) rfl) rfl rfl ?_
    refine Rv rfl rfl rfl (U_move rfl) rfl rfl ?_
    refine Rv rfl rfl rfl (U_extract rfl rfl) rfl rfl ?_
    refine Rv rfl rfl rfl (U_extract rfl rfl) rfl rfl ?_
    refine Rv rfl rfl rfl (U_assign rfl) rfl rfl ?_
    refine Rv rfl rfl rfl (U_assign rfl) rfl rfl ?_
    refine Re rfl ?_
    refine thenQ_n ?_
    refine W_seq rfl ?_
    refine W_seq rfl ?_
    refine W_reg rfl ?_
    refine Rv rfl rfl rfl (U_move rfl) rfl rfl ?_
    refine Rv rfl rfl rfl (U_neq rfl rfl) rfl rfl ?_
    refine Rv rfl rfl rfl (U_move rfl) rfl rfl ?_
    refine Rv rfl rfl rfl (U_move rfl) rfl rfl ?_
    refine Rv rfl rfl rfl (U_neq rfl rfl) rfl rfl ?_
    refine Rv rfl rfl rfl (U_pick_f rfl rfl) rfl rfl ?_
    refine Rv rfl rfl rfl (U_move rfl) rfl rfl ?_
    refine Rv rfl rfl rfl (U_move rfl) rfl rfl ?_
    refine Rv rfl rfl rfl (U_neq rfl rfl) rfl rfl ?_
    refine Rv rfl rfl rfl (U_pick_f rfl rfl) rfl rfl ?_
    refine Rv rfl rfl rfl (U_move rfl) rfl rfl ?_
    refine Rv rfl rfl rfl (U_move rfl) rfl rfl ?_
    refine Rv rfl rfl rfl (U_neq rfl rfl) rfl rfl ?_
    refine Rv rfl rfl rfl (U_pick_f rfl rfl) rfl rfl ?_
    refine Rv rfl rfl rfl (U_move rfl) rfl rfl ?_
    refine Rv rfl rfl rfl (U_move rfl) rfl rfl ?_
    refine Rv rfl rfl rfl (U_move rfl) rfl rfl ?_
    refine Rv rfl rfl rfl (OpU.toB (U_gtr rfl rfl) (decide_eq_false (by omega))) rfl rfl ?_
    refine Rv rfl rfl rfl (U_pick_f rfl rfl) rfl rfl ?_
    refine Rv rfl rfl rfl (U_move rfl) rfl rfl ?_
    refine Rv rfl rfl rfl (U_fieldAddrR rfl) rfl rfl ?_
    refine Rv rfl rfl rfl (U_load1 rfl rfl rfl) rfl rfl ?_
    refine Rv rfl rfl rfl (U_fieldAddrR rfl) rfl rfl ?_
    refine Rv rfl rfl rfl (U_load1 rfl rfl rfl) rfl rfl ?_
    refine Rv rfl rfl rfl (U_call rfl rfl (behindF_p (movP p (lsM p (kdsQ (b ||| 1 <<< (m % 8))))).ds (movP p (lsM p (kdsQ b))).ds none none hll2 hll1 (by rw [movP_len, movP_len]) (ls_le (hgs _ ls_mem))) rfl) rfl rfl ?_
    refine Rv rfl rfl rfl (U_pick_f rfl rfl) rfl rfl ?_
    refine Re rfl ?_
    refine thenQ_n ?_
    refine Wcond rfl rfl (fun h => nomatch h) (fun _ => ?_)
    refine W_skip rfl ?_
    refine thenQ_n ?_
    refine W_seq rfl ?_
    refine W_reg rfl ?_
    refine Rv rfl rfl rfl (U_move rfl) rfl rfl ?_
    refine Rv rfl rfl rfl (U_neq rfl rfl) rfl rfl ?_
    refine Rv rfl rfl rfl (U_move rfl) rfl rfl ?_
    refine Rs rfl rfl rfl rfl rfl ?_
    refine Rs rfl rfl rfl rfl rfl ?_
    refine Rs rfl rfl rfl rfl rfl ?_
    refine Rs rfl rfl rfl rfl rfl ?_
    refine Rs rfl rfl rfl rfl rfl ?_
    refine Rs rfl rfl rfl rfl rfl ?_
    refine Rs rfl rfl rfl rfl rfl ?_
    refine Rs rfl rfl rfl rfl rfl ?_
    refine Rs rfl rfl rfl rfl rfl ?_
    refine Rv rfl rfl rfl (U_pick_t rfl rfl) rfl rfl ?_
    refine Rv rfl rfl rfl (U_move rfl) rfl rfl ?_
    refine Rv rfl rfl rfl (U_move rfl) rfl rfl ?_
    refine Rv rfl rfl rfl (U_eql rfl rfl) rfl rfl ?_
    refine Rv rfl rfl rfl (U_move rfl) rfl rfl ?_
    refine Rv rfl rfl rfl (U_move rfl) rfl rfl ?_
    refine Rv rfl rfl rfl (U_call rfl rfl (hasF_p (reachedQ (kdsQ b)) ((x % 8 : Nat) : Int) none (by omega) (fun h => (reached_iff hx8).1 h hA)) rfl) rfl rfl ?_
    refine Rv rfl rfl rfl (U_eqlB rfl rfl) rfl rfl ?_
    refine Rv rfl rfl rfl (U_pick_t rfl rfl) rfl rfl ?_
    refine Rv rfl rfl rfl (U_move rfl) rfl rfl ?_
    refine Rv rfl rfl rfl (U_move rfl) rfl rfl ?_
    refine Rv rfl rfl rfl (U_eql rfl rfl) rfl rfl ?_
    refine Rv rfl rfl rfl (U_move rfl) rfl rfl ?_
    refine Rv rfl rfl rfl (U_move rfl) rfl rfl ?_
    refine Rv rfl rfl rfl (U_call rfl rfl (hasF_p (reachedQ (kdsQ (b ||| 1 <<< (m % 8)))) ((x % 8 : Nat) : Int) none (by omega) (fun h => (reached_iff hx8).1 h hB)) rfl) rfl rfl ?_
    refine Rv rfl rfl rfl (U_eqlB rfl rfl) rfl rfl ?_
    refine Rv rfl rfl rfl (U_pick_t rfl rfl) rfl rfl ?_
    refine Rv rfl rfl rfl (U_move rfl) rfl rfl ?_
    refine Rv rfl rfl rfl (U_call rfl rfl (works_p) rfl) rfl rfl ?_
    refine Rv rfl rfl rfl (U_pick_t rfl rfl) rfl rfl ?_
    refine Rv rfl rfl rfl (U_assign rfl) rfl rfl ?_
    refine Re rfl ?_
    refine thenQ_n ?_
    refine W_ret rfl ?_
    exact retL (rlT rfl rl0) rfl rfl
theorem plateMore_p (p : Pl) (c : Option Nat) (b m x s y : Nat) (hb8 : b < 256) (hm8 : m < 256) (hx256 : x < 256) (hs256 : s < 256) (hy256 : y < 256) : Pure Try.prog 15 [.agg [i64 p.n, intsA p.ds c], .int .u8 (b : Nat), .int .u8 (m : Nat), .int .u8 (x : Nat), .int .u8 (s : Nat), .int .u8 (y : Nat)] (.bool true) := by
  cases hf : (!(!grt p && decide (chkP p = 0))) with
  | true => exact plateMore0_p p c b m x s y hf
  | false =>
    rw [Bool.not_eq_false'] at hf
    obtain ⟨N, hv⟩ := vp_of (fine_ok hf)
    have hx8 : x % 8 < 8 := Nat.mod_lt x (by decide)
    by_cases hB : geN (heiQ (kdsQ (b ||| 1 <<< (m % 8)))) ((x % 8 : Nat) : Int).toNat = 20
    · by_cases hA : geN (heiQ (kdsQ b)) ((x % 8 : Nat) : Int).toNat = 20
      · exact plateMore3_p p c b m x s y hb8 hm8 hx256 hs256 hy256 N hv hA hB
      · exact absurd hB ((reached_iff hx8).1 (reached_mono (kds_ok b) (kds_ok _) (fun z hz => kds_sub hz) ((reached_iff hx8).2 hA)))
    · by_cases hA : geN (heiQ (kdsQ b)) ((x % 8 : Nat) : Int).toNat = 20
      · exact plateMore2_p p c b m x s y hb8 hm8 hx256 hs256 hy256 N hv hA hB
      · exact plateMore1_p p c b m x s y hb8 hm8 hx256 hs256 hy256 N hv hA hB
end Go.Proofs.Ythoodfiacfmhgaa
end
