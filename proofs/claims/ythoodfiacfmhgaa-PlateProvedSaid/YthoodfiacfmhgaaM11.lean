import Derived.Test.YthoodfiacfmhgaaM8
import Derived.Test.YthoodfiacfmhgaaM4
set_option linter.all false
section
/- Plates that are moved, and kinds by their bits: plain laws. -/
namespace Go.Proofs.Ythoodfiacfmhgaa
set_option maxRecDepth 20000
open Go.AE
theorem getD_get {l : List Int} {i : Nat} (h : i < l.length) : l.getD i 0 = l[i] := by
  rw [List.getD_eq_getElem?_getD, List.getElem?_eq_getElem h]; rfl
theorem movP_ds {p : Pl} {N : Nat} (hv : VP p N) (m : Int) : (movP p m).ds = movD N m p.ds := by
  unfold movP; rw [hv.n]; simp
/-- Where a dot lies behind a motion. -/
theorem mov_at {p : Pl} {N : Nat} (hv : VP p N) {m : Int} (hm : 0 ≤ m ∧ m < 8) {i : Nat} (hi : i < N * N) : (movP p m).ds[posN N m i]? = some (p.ds.getD i 0) := by
  rw [movP_ds hv]; exact movD_get hv.lo hv.hi hm hv.len hi
theorem movP_vp {p : Pl} {N : Nat} (hv : VP p N) {m : Int} (hm : 0 ≤ m ∧ m < 8) : VP (movP p m) N := by
  refine ⟨hv.n, hv.lo, hv.hi, by rw [movP_len, hv.len], fun x hx => ?_⟩
  obtain ⟨j, hj, rfl⟩ := List.getElem_of_mem hx
  have hj' : j < N * N := by rw [movP_len, hv.len] at hj; exact hj
  have hi := posN_lt hv.lo hv.hi (m := invM m) hj'
  have h1 := mov_at hv hm hi
  rw [(posN_inv hv.lo hm hj').2, List.getElem?_eq_getElem hj] at h1
  have h2 : posN N (invM m) j < p.ds.length := by rw [hv.len]; exact hi
  rw [getD_get h2] at h1
  rw [Option.some.inj h1]; exact hv.bd _ (List.getElem_mem h2)
theorem movP_aft {p : Pl} {N : Nat} (hv : VP p N) {a b : Int} (ha : 0 ≤ a ∧ a < 8) (hb : 0 ≤ b ∧ b < 8) : movP (movP p a) b = movP p (aft a b) := by
  have hva := movP_vp hv ha
  have hab := after_in ha hb
  have h : (movP (movP p a) b).ds = (movP p (aft a b)).ds := by
    refine mov_ext hv.lo hv.hi (m := aft a b) hab (by rw [movP_len, movP_len, hv.len]) (by rw [movP_len, hv.len]) fun i hi => ?_
    rw [mov_at hv hab hi, posN_aft hv.lo ha hb hi]
    have h1 := posN_lt hv.lo hv.hi (m := a) hi
    rw [mov_at hva hb h1]
    have h2 : posN N a i < (movP p a).ds.length := by rw [hva.len]; exact h1
    have h3 := mov_at hv ha hi
    rw [List.getElem?_eq_getElem h2] at h3
    rw [getD_get h2]; exact h3
  show Pl.mk _ _ = Pl.mk _ _
  congr 1
theorem movP_back {p : Pl} {N : Nat} (hv : VP p N) {a : Int} (ha : 0 ≤ a ∧ a < 8) : movP (movP p a) (invM a) = p := by
  rw [movP_aft hv ha (inv_in ha), (aft_inv1 ha).1, movP_0 hv]
theorem aft_assoc_all : (motions.all fun a => motions.all fun b => motions.all fun c => decide (aft (aft a b) c = aft a (aft b c))) = true := by decide +kernel
theorem aft_assoc {a b c : Int} (ha : 0 ≤ a ∧ a < 8) (hb : 0 ≤ b ∧ b < 8) (hc : 0 ≤ c ∧ c < 8) : aft (aft a b) c = aft a (aft b c) := by
  have := aft_assoc_all
  simp only [List.all_eq_true, decide_eq_true_eq] at this
  exact this a (mo_mem ha) b (mo_mem hb) c (mo_mem hc)
theorem vp_grt {p : Pl} {N : Nat} (h : VP p N) : grt p = false := by
  have := vp_64 (vp_chk h); simp [grt]; omega
theorem fine_ok {p : Pl} (h : (!grt p && decide (chkP p = 0)) = true) : chkP p = 0 := by simp at h; exact h.2
theorem vp_fine {p : Pl} {N : Nat} (h : VP p N) : (!grt p && decide (chkP p = 0)) = true := by rw [vp_grt h, vp_chk h]; rfl
theorem isMoT {m : Int} (h : 0 ≤ m ∧ m < 8) : isMo m = true := isMo_iff.2 h
theorem aftG {a b : Int} (ha : 0 ≤ a ∧ a < 8) (hb : 0 ≤ b ∧ b < 8) : aftR a b = aft a b ∧ aftE a b = 0 := ⟨if_pos ⟨isMoT ha, isMoT hb⟩, if_pos ⟨isMoT ha, isMoT hb⟩⟩
theorem invG {a : Int} (ha : 0 ≤ a ∧ a < 8) : invR a = invM a ∧ invE a = 0 := ⟨if_pos (isMoT ha), if_pos (isMoT ha)⟩
theorem mvG {p : Pl} {N : Nat} (hv : VP p N) {m : Int} (hm : 0 ≤ m ∧ m < 8) : mvR p m = movP p m ∧ mvE p m = 0 := by
  have h : mvE p m = 0 := by rw [mvE, if_neg (by simpa using vp_chk hv), if_pos (isMoT hm)]
  exact ⟨by rw [mvR, if_pos h], h⟩
theorem vp_mil {p : Pl} {N : Nat} (h : VP p N) : p.ds.length ≤ 1000000 := b1M (vp_64 (vp_chk h))
theorem mvG_p (p : Pl) (c : Option Nat) (N : Nat) (hv : VP p N) (m : Int) (hm : 0 ≤ m ∧ m < 8) : Pure Try.prog 19 [.agg [i64 p.n, intsA p.ds c], i64 m] (.tup [.agg [i64 (movP p m).n, intsA (movP p m).ds none], i64 0]) := by
  have := move_p p c (vp_mil hv) m; rwa [(mvG hv hm).1, (mvG hv hm).2] at this
theorem aftG_p (a b : Int) (ha : 0 ≤ a ∧ a < 8) (hb : 0 ≤ b ∧ b < 8) : Pure Try.prog 27 [i64 a, i64 b] (.tup [i64 (aft a b), i64 0]) := by
  have := afterA_p a b; rwa [(aftG ha hb).1, (aftG ha hb).2] at this
theorem invG_p (a : Int) (ha : 0 ≤ a ∧ a < 8) : Pure Try.prog 29 [i64 a] (.tup [i64 (invM a), i64 0]) := by
  have := inverseA_p a; rwa [(invG ha).1, (invG ha).2] at this
theorem isMoG_p (a : Int) (ha : 0 ≤ a ∧ a < 8) : Pure Try.prog 53 [i64 a] (.bool true) := by
  have := isMo_p a; rwa [isMoT ha] at this
theorem fineG_p (p : Pl) (c : Option Nat) (N : Nat) (hv : VP p N) : Pure Try.prog 55 [.agg [i64 p.n, intsA p.ds c]] (.bool true) := by
  have := fine_p p c; rwa [vp_fine hv] at this
end Go.Proofs.Ythoodfiacfmhgaa
end

section
/- Plates that are moved. -/
namespace Go.Proofs.Ythoodfiacfmhgaa
set_option maxRecDepth 20000
open Go.AE
theorem samE_p (p q : Pl) (c d : Option Nat) (hl : p.ds.length ≤ 1000000) (hl2 : q.ds.length ≤ 1000000) (h : p = q) : Pure Try.prog 25 [.agg [i64 p.n, intsA p.ds c], .agg [i64 q.n, intsA q.ds d]] (.bool true) := by
  subst h; exact samS_p p c d hl
theorem plateMoved_p (p : Pl) (c : Option Nat) (a b d : Nat) (ha8 : a < 256) (hb8 : b < 256) (hd8 : d < 256) : Pure Try.prog 10 [plA p c, .int .u8 (a : Nat), .int .u8 (b : Nat), .int .u8 (d : Nat)] (.bool true) := by
  refine pure_of_body Try.func10 (c := body Try.f10) rfl (by simp [Try.ntmps10]) fun w0 Φ0 => ?_
  refine W_seq rfl ?_
  refine W_reg rfl ?_
  refine Rv rfl rfl rfl (U_boxF rfl rfl rfl) rfl rfl ?_
  refine Rv rfl rfl rfl (U_assign rfl) rfl rfl ?_
  refine Re rfl ?_
  refine thenQ_n ?_
  refine W_seq rfl ?_
  refine W_seq rfl ?_
  refine W_reg rfl ?_
  refine Rv rfl rfl rfl (U_load2 rfl rfl rfl rfl) rfl rfl ?_
  refine Rv rfl rfl rfl (U_call rfl rfl (fine_p p c) rfl) rfl rfl ?_
  refine Rv rfl rfl rfl (U_not rfl) rfl rfl ?_
  refine Re rfl ?_
  refine thenQ_n ?_
  refine Wcond rfl rfl (fun hc0 => ?_) (fun hc0 => ?_)
  · refine W_seq rfl ?_
    refine W_reg rfl ?_
    refine Rv rfl rfl rfl (U_call rfl rfl (works_p) rfl) rfl rfl ?_
    refine Rv rfl rfl rfl (U_assign rfl) rfl rfl ?_
    refine Re rfl ?_
    refine thenQ_n ?_
    refine W_ret rfl ?_
    refine thenQ_r ?_
    exact retL (rlT rfl rl0) rfl rfl
  · have hc0' := Bool.eq_false_iff.1 hc0
    obtain ⟨N, hv⟩ := vp_of (fine_ok (by simpa using hc0))
    have ha : 0 ≤ ((a % 8 : Nat) : Int) ∧ ((a % 8 : Nat) : Int) < 8 := by omega
    have hb : 0 ≤ ((b % 8 : Nat) : Int) ∧ ((b % 8 : Nat) : Int) < 8 := by omega
    have hd : 0 ≤ ((d % 8 : Nat) : Int) ∧ ((d % 8 : Nat) : Int) < 8 := by omega
    have hab := after_in ha hb
    have hbd := after_in hb hd
    have hi := inv_in ha
    have hva := movP_vp hv ha
    have hl := vp_mil hv
    have hla := vp_mil hva
    have hlb := vp_mil (movP_vp hva hb)
    have hli := vp_mil (movP_vp hva hi)
    have hlab := vp_mil (movP_vp hv hab)
    refine W_skip rfl ?_
    refine thenQ_n ?_
    refine W_seq rfl ?_
    refine W_reg rfl ?_
    refine Rv rfl rfl rfl (U_move rfl) rfl rfl ?_
    refine Rv rfl rfl rfl (U_rem (c := ((a % 8 : Nat) : Int)) rfl rfl (by omega) (tmodN _ _)) rfl rfl ?_
    refine Rv rfl rfl rfl (U_convInt (by rfl) rfl (wr_i64 (by omega) (by omega))) rfl rfl ?_
    refine Rv rfl rfl rfl (U_move rfl) rfl rfl ?_
    refine Rv rfl rfl rfl (U_rem (c := ((b % 8 : Nat) : Int)) rfl rfl (by omega) (tmodN _ _)) rfl rfl ?_
    refine Rv rfl rfl rfl (U_convInt (by rfl) rfl (wr_i64 (by omega) (by omega))) rfl rfl ?_
    refine Rv rfl rfl rfl (U_move rfl) rfl rfl ?_
    refine Rv rfl rfl rfl (U_rem (c := ((d % 8 : Nat) : Int)) rfl rfl (by omega) (tmodN _ _)) rfl rfl ?_
    refine Rv rfl rfl rfl (U_convInt (by rfl) rfl (wr_i64 (by omega) (by omega))) rfl rfl ?_
    refine Rv rfl rfl rfl (U_assign rfl) rfl rfl ?_
    refine Rv rfl rfl rfl (U_assign rfl) rfl rfl ?_
    refine Rv rfl rfl rfl (U_assign rfl) rfl rfl ?_
    refine Re rfl ?_
    refine thenQ_n ?_
    refine W_seq rfl ?_
    refine W_reg rfl ?_
    refine Rv rfl rfl rfl (U_move rfl) rfl rfl ?_
    refine Rv rfl rfl rfl (U_move rfl) rfl rfl ?_
    refine Rv rfl rfl rfl (U_call rfl rfl (aftG_p ((a % 8 : Nat) : Int) ((b % 8 : Nat) : Int) (by first | assumption | omega) (by first | assumption | omega)) rfl) rfl rfl ?_
    refine Rv rfl rfl rfl (U_move rfl) rfl rfl ?_
    refine Rv rfl rfl rfl (U_extract rfl rfl) rfl rfl ?_
    refine Rv rfl rfl rfl (U_extract rfl rfl) rfl rfl ?_
    refine Rv rfl rfl rfl (U_assign rfl) rfl rfl ?_
    refine Rv rfl rfl rfl (U_assign rfl) rfl rfl ?_
    refine Re rfl ?_
    refine thenQ_n ?_
    refine W_seq rfl ?_
    refine W_reg rfl ?_
    refine Rv rfl rfl rfl (U_move rfl) rfl rfl ?_
    refine Rv rfl rfl rfl (U_move rfl) rfl rfl ?_
    refine Rv rfl rfl rfl (U_call rfl rfl (aftG_p ((b % 8 : Nat) : Int) ((d % 8 : Nat) : Int) (by first | assumption | omega) (by first | assumption | omega)) rfl) rfl rfl ?_
    refine Rv rfl rfl rfl (U_move rfl) rfl rfl ?_
    refine Rv rfl rfl rfl (U_extract rfl rfl) rfl rfl ?_
    refine Rv rfl rfl rfl (U_extract rfl rfl) rfl rfl ?_
    refine Rv rfl rfl rfl (U_assign rfl) rfl rfl ?_
    refine Rv rfl rfl rfl (U_assign rfl) rfl rfl ?_
    refine Re rfl ?_
    refine thenQ_n ?_
    refine W_seq rfl ?_
    refine W_reg rfl ?_
    refine Rv rfl rfl rfl (U_move rfl) rfl rfl ?_
    refine Rv rfl rfl rfl (U_call rfl rfl (invG_p ((a % 8 : Nat) : Int) (by first | assumption | omega)) rfl) rfl rfl ?_
    refine Rv rfl rfl rfl (U_move rfl) rfl rfl ?_
    refine Rv rfl rfl rfl (U_extract rfl rfl) rfl rfl ?_
    refine Rv rfl rfl rfl (U_extract rfl rfl) rfl rfl ?_
    refine Rv rfl rfl rfl (U_assign rfl) rfl rfl ?_
    refine Rv rfl rfl rfl (U_assign rfl) rfl rfl ?_
    refine Re rfl ?_
    refine thenQ_n ?_
    refine W_seq rfl ?_
    refine W_seq rfl ?_
    refine W_reg rfl ?_
    refine Rv rfl rfl rfl (U_move rfl) rfl rfl ?_
    refine Rv rfl rfl rfl (U_neq rfl rfl) rfl rfl ?_
    refine Rv rfl rfl rfl (U_move rfl) rfl rfl ?_
    refine Rv rfl rfl rfl (U_move rfl) rfl rfl ?_
    refine Rv rfl rfl rfl (U_neq rfl rfl) rfl rfl ?_
    refine Rv rfl rfl rfl (U_pick_f rfl rfl) rfl rfl ?_
    refine Rv rfl rfl rfl (U_move rfl) rfl rfl ?_
    refine Rv rfl rfl rfl (U_move rfl) rfl rfl ?_
    refine Rv rfl rfl rfl (U_neq rfl rfl) rfl rfl ?_
    refine Rv rfl rfl rfl (U_pick_f rfl rfl) rfl rfl ?_
    refine Rv rfl rfl rfl (U_move rfl) rfl rfl ?_
    refine Rv rfl rfl rfl (U_move rfl) rfl rfl ?_
    refine Rv rfl rfl rfl (U_call rfl rfl (isMoG_p (aft ((a % 8 : Nat) : Int) ((b % 8 : Nat) : Int)) (by first | assumption | omega)) rfl) rfl rfl ?_
    refine Rv rfl rfl rfl (U_not rfl) rfl rfl ?_
    refine Rv rfl rfl rfl (U_pick_f rfl rfl) rfl rfl ?_
    refine Rv rfl rfl rfl (U_move rfl) rfl rfl ?_
    refine Rv rfl rfl rfl (U_move rfl) rfl rfl ?_
    refine Rv rfl rfl rfl (U_call rfl rfl (isMoG_p (aft ((b % 8 : Nat) : Int) ((d % 8 : Nat) : Int)) (by first | assumption | omega)) rfl) rfl rfl ?_
    refine Rv rfl rfl rfl (U_not rfl) rfl rfl ?_
    refine Rv rfl rfl rfl (U_pick_f rfl rfl) rfl rfl ?_
    refine Rv rfl rfl rfl (U_move rfl) rfl rfl ?_
    refine Rv rfl rfl rfl (U_move rfl) rfl rfl ?_
    refine Rv rfl rfl rfl (U_call rfl rfl (isMoG_p (invM ((a % 8 : Nat) : Int)) (by first | assumption | omega)) rfl) rfl rfl ?_
    refine Rv rfl rfl rfl (U_not rfl) rfl rfl ?_
    refine Rv rfl rfl rfl (U_pick_f rfl rfl) rfl rfl ?_
    refine Re rfl ?_
    refine thenQ_n ?_
    refine Wcond rfl rfl (fun h => nomatch h) (fun _ => ?_)
    refine W_skip rfl ?_
    refine thenQ_n ?_
    refine W_seq rfl ?_
    refine W_reg rfl ?_
    refine Rv rfl rfl rfl (U_move rfl) rfl rfl ?_
    refine Rv rfl rfl rfl (U_move rfl) rfl rfl ?_
    refine Rv rfl rfl rfl (U_call rfl rfl (aftG_p (aft ((a % 8 : Nat) : Int) ((b % 8 : Nat) : Int)) ((d % 8 : Nat) : Int) (by first | assumption | omega) (by first | assumption | omega)) rfl) rfl rfl ?_
    refine Rv rfl rfl rfl (U_move rfl) rfl rfl ?_
    refine Rv rfl rfl rfl (U_extract rfl rfl) rfl rfl ?_
    refine Rv rfl rfl rfl (U_extract rfl rfl) rfl rfl ?_
    refine Rv rfl rfl rfl (U_assign rfl) rfl rfl ?_
    refine Rv rfl rfl rfl (U_assign rfl) rfl rfl ?_
    refine Re rfl ?_
    refine thenQ_n ?_
    refine W_seq rfl ?_
    refine W_reg rfl ?_
    refine Rv rfl rfl rfl (U_move rfl) rfl rfl ?_
    refine Rv rfl rfl rfl (U_move rfl) rfl rfl ?_
    refine Rv rfl rfl rfl (U_call rfl rfl (aftG_p ((a % 8 : Nat) : Int) (aft ((b % 8 : Nat) : Int) ((d % 8 : Nat) : Int)) (by first | assumption | omega) (by first | assumption | omega)) rfl) rfl rfl ?_
    refine Rv rfl rfl rfl (U_move rfl) rfl rfl ?_
    refine Rv rfl rfl rfl (U_extract rfl rfl) rfl rfl ?_
    refine Rv rfl rfl rfl (U_extract rfl rfl) rfl rfl ?_
    refine Rv rfl rfl rfl (U_assign rfl) rfl rfl ?_
    refine Rv rfl rfl rfl (U_assign rfl) rfl rfl ?_
    refine Re rfl ?_
    refine thenQ_n ?_
    refine W_seq rfl ?_
    refine W_reg rfl ?_
    refine Rv rfl rfl rfl (U_move rfl) rfl rfl ?_
    refine Rv rfl rfl rfl (U_move rfl) rfl rfl ?_
    refine Rv rfl rfl rfl (U_call rfl rfl (aftG_p ((a % 8 : Nat) : Int) (invM ((a % 8 : Nat) : Int)) (by first | assumption | omega) (by first | assumption | omega)) rfl) rfl rfl ?_
    refine Rv rfl rfl rfl (U_move rfl) rfl rfl ?_
    refine Rv rfl rfl rfl (U_extract rfl rfl) rfl rfl ?_
    refine Rv rfl rfl rfl (U_extract rfl rfl) rfl rfl ?_
    refine Rv rfl rfl rfl (U_assign rfl) rfl rfl ?_
    refine Rv rfl rfl rfl (U_assign rfl) rfl rfl ?_
    refine Re rfl ?_
    refine thenQ_n ?_
    refine W_seq rfl ?_
    refine W_reg rfl ?_
    refine Rv rfl rfl rfl (U_move rfl) rfl rfl ?_
    refine Rv rfl rfl rfl (U_move rfl) rfl rfl ?_
    refine Rv rfl rfl rfl (U_call rfl rfl (aftG_p (invM ((a % 8 : Nat) : Int)) ((a % 8 : Nat) : Int) (by first | assumption | omega) (by first | assumption | omega)) rfl) rfl rfl ?_
    refine Rv rfl rfl rfl (U_move rfl) rfl rfl ?_
    refine Rv rfl rfl rfl (U_extract rfl rfl) rfl rfl ?_
    refine Rv rfl rfl rfl (U_extract rfl rfl) rfl rfl ?_
    refine Rv rfl rfl rfl (U_assign rfl) rfl rfl ?_
    refine Rv rfl rfl rfl (U_assign rfl) rfl rfl ?_
    refine Re rfl ?_
    refine thenQ_n ?_
    refine W_seq rfl ?_
    refine W_seq rfl ?_
    refine W_reg rfl ?_
    refine Rv rfl rfl rfl (U_move rfl) rfl rfl ?_
    refine Rv rfl rfl rfl (U_neq rfl rfl) rfl rfl ?_
    refine Rv rfl rfl rfl (U_move rfl) rfl rfl ?_
    refine Rv rfl rfl rfl (U_move rfl) rfl rfl ?_
    refine Rv rfl rfl rfl (U_neq rfl rfl) rfl rfl ?_
    refine Rv rfl rfl rfl (U_pick_f rfl rfl) rfl rfl ?_
    refine Rv rfl rfl rfl (U_move rfl) rfl rfl ?_
    refine Rv rfl rfl rfl (U_move rfl) rfl rfl ?_
    refine Rv rfl rfl rfl (U_neq rfl rfl) rfl rfl ?_
    refine Rv rfl rfl rfl (U_pick_f rfl rfl) rfl rfl ?_
    refine Rv rfl rfl rfl (U_move rfl) rfl rfl ?_
    refine Rv rfl rfl rfl (U_move rfl) rfl rfl ?_
    refine Rv rfl rfl rfl (U_neq rfl rfl) rfl rfl ?_
    refine Rv rfl rfl rfl (U_pick_f rfl rfl) rfl rfl ?_
    refine Rv rfl rfl rfl (U_move rfl) rfl rfl ?_
    refine Rv rfl rfl rfl (U_move rfl) rfl rfl ?_
    refine Rv rfl rfl rfl (U_move rfl) rfl rfl ?_
    refine Rv rfl rfl rfl (U_neqE (a := (aft (aft ((a % 8 : Nat) : Int) ((b % 8 : Nat) : Int)) ((d % 8 : Nat) : Int))) (b := (aft ((a % 8 : Nat) : Int) (aft ((b % 8 : Nat) : Int) ((d % 8 : Nat) : Int)))) rfl rfl (by first | with_reducible exact aft_assoc (by assumption) (by assumption) (by assumption) | with_reducible exact (aft_inv1 (by assumption)).1 | with_reducible exact (aft_inv1 (by assumption)).2)) rfl rfl ?_
    refine Rv rfl rfl rfl (U_pick_f rfl rfl) rfl rfl ?_
    refine Rv rfl rfl rfl (U_move rfl) rfl rfl ?_
    refine Rv rfl rfl rfl (U_move rfl) rfl rfl ?_
    refine Rv rfl rfl rfl (U_neqE (a := (aft ((a % 8 : Nat) : Int) (invM ((a % 8 : Nat) : Int)))) (b := 0) rfl rfl (by first | with_reducible exact aft_assoc (by assumption) (by assumption) (by assumption) | with_reducible exact (aft_inv1 (by assumption)).1 | with_reducible exact (aft_inv1 (by assumption)).2)) rfl rfl ?_
    refine Rv rfl rfl rfl (U_pick_f rfl rfl) rfl rfl ?_
    refine Rv rfl rfl rfl (U_move rfl) rfl rfl ?_
    refine Rv rfl rfl rfl (U_move rfl) rfl rfl ?_
    refine Rv rfl rfl rfl (U_neqE (a := (aft (invM ((a % 8 : Nat) : Int)) ((a % 8 : Nat) : Int))) (b := 0) rfl rfl (by first | with_reducible exact aft_assoc (by assumption) (by assumption) (by assumption) | with_reducible exact (aft_inv1 (by assumption)).1 | with_reducible exact (aft_inv1 (by assumption)).2)) rfl rfl ?_
    refine Rv rfl rfl rfl (U_pick_f rfl rfl) rfl rfl ?_
    refine Re rfl ?_
    refine thenQ_n ?_
    refine Wcond rfl rfl (fun h => nomatch h) (fun _ => ?_)
    refine W_skip rfl ?_
    refine thenQ_n ?_
    refine W_seq rfl ?_
    refine W_reg rfl ?_
    refine Rv rfl rfl rfl (U_load2 rfl rfl rfl rfl) rfl rfl ?_
    refine Rv rfl rfl rfl (U_move rfl) rfl rfl ?_
    refine Rv rfl rfl rfl (U_call rfl rfl (mvG_p p c N (by assumption) ((a % 8 : Nat) : Int) (by first | assumption | omega)) rfl) rfl rfl ?_
    refine Rv rfl rfl rfl (U_move rfl) rfl rfl ?_
    refine Rv rfl rfl rfl (U_extract rfl rfl) rfl rfl ?_
    refine Rv rfl rfl rfl (U_extract rfl rfl) rfl rfl ?_
    refine Ra rfl rfl rfl (U_alloc) rfl rfl rfl ?_
    refine Rn rfl rfl rfl (U_storeAll rfl rfl rfl rfl rfl rfl) rfl ?_
    refine Rv rfl rfl rfl (U_assign rfl) rfl rfl ?_
    refine Re rfl ?_
    refine thenQ_n ?_
    refine WfrN 0 rfl rfl (T' := [(4, .rop [i64 p.n, .ros (p.ds.map i64) p.ds.length c] 0), (9, i64 ((a % 8 : Nat) : Int)), (10, i64 ((b % 8 : Nat) : Int)), (12, i64 (aft ((a % 8 : Nat) : Int) ((b % 8 : Nat) : Int))), (13, i64 0), (16, i64 (invM ((a % 8 : Nat) : Int))), (23, .rop [i64 ((movP p ((a % 8 : Nat) : Int)).n), .ros (((movP p ((a % 8 : Nat) : Int)).ds).map i64) (((movP p ((a % 8 : Nat) : Int)).ds).length) none] 0)]) (H' := []) ⟨⟨_, rfl, rfl⟩, ⟨_, rfl, rfl⟩, ⟨_, rfl, rfl⟩, ⟨_, rfl, rfl⟩, ⟨_, rfl, rfl⟩, ⟨_, rfl, rfl⟩, ⟨_, rfl, rfl⟩, trivial⟩ trivial ?_
    refine W_seq rfl ?_
    refine W_seq rfl ?_
    refine Wdraw rfl (by kernel_rfl) (by kernel_rfl) ?_
    refine Dv rfl rfl rfl (U_move rfl) rfl rfl ?_
    refine Dv rfl rfl rfl (U_neq rfl rfl) rfl rfl ?_
    refine Dv rfl rfl rfl (U_move rfl) rfl rfl ?_
    refine Dv rfl rfl rfl (U_load2 rfl rfl rfl rfl) rfl rfl ?_
    refine Dv rfl rfl rfl (U_load2 rfl rfl rfl rfl) rfl rfl ?_
    refine Dv rfl rfl rfl (U_move rfl) rfl rfl ?_
    refine Dv rfl rfl rfl (U_call rfl rfl (moveOf_p p c N (by assumption) ((a % 8 : Nat) : Int) (by first | assumption | omega)) rfl) rfl rfl ?_
    refine Dv rfl rfl rfl (U_call rfl rfl (samS_p (movP p ((a % 8 : Nat) : Int)) none (some (movP p ((a % 8 : Nat) : Int)).ds.length) (by first | assumption | omega | exact Sz.le | (simp; done) | (simp; omega))) rfl) rfl rfl ?_
    refine Dv rfl rfl rfl (U_not rfl) rfl rfl ?_
    refine Dv rfl rfl rfl (U_pick_f rfl rfl) rfl rfl ?_
    refine Dr.nil rfl ?_
    refine thenQ_n ?_
    refine Wcond rfl rfl (fun h => nomatch h) (fun _ => ?_)
    refine W_skip rfl ?_
    refine thenQ_n ?_
    refine W_seq rfl ?_
    refine W_reg rfl ?_
    refine Rv rfl rfl rfl (U_load2 rfl rfl rfl rfl) rfl rfl ?_
    refine Rv rfl rfl rfl (U_move rfl) rfl rfl ?_
    refine Rv rfl rfl rfl (U_call rfl rfl (mvG_p (movP p ((a % 8 : Nat) : Int)) none N (by assumption) ((b % 8 : Nat) : Int) (by first | assumption | omega)) rfl) rfl rfl ?_
    refine Rv rfl rfl rfl (U_move rfl) rfl rfl ?_
    refine Rv rfl rfl rfl (U_extract rfl rfl) rfl rfl ?_
    refine Rv rfl rfl rfl (U_extract rfl rfl) rfl rfl ?_
    refine Ra rfl rfl rfl (U_alloc) rfl rfl rfl ?_
    refine Rn rfl rfl rfl (U_storeAll rfl rfl rfl rfl rfl rfl) rfl ?_
    refine Rv rfl rfl rfl (U_assign rfl) rfl rfl ?_
    refine Re rfl ?_
    refine thenQ_n ?_
    refine WfrN 1 rfl rfl (T' := [(4, .rop [i64 p.n, .ros (p.ds.map i64) p.ds.length c] 0), (12, i64 (aft ((a % 8 : Nat) : Int) ((b % 8 : Nat) : Int))), (13, i64 0), (16, i64 (invM ((a % 8 : Nat) : Int))), (23, .rop [i64 ((movP p ((a % 8 : Nat) : Int)).n), .ros (((movP p ((a % 8 : Nat) : Int)).ds).map i64) (((movP p ((a % 8 : Nat) : Int)).ds).length) none] 0), (24, .rop [i64 ((movP (movP p ((a % 8 : Nat) : Int)) ((b % 8 : Nat) : Int)).n), .ros (((movP (movP p ((a % 8 : Nat) : Int)) ((b % 8 : Nat) : Int)).ds).map i64) (((movP (movP p ((a % 8 : Nat) : Int)) ((b % 8 : Nat) : Int)).ds).length) none] 0)]) (H' := []) ⟨⟨_, rfl, rfl⟩, ⟨_, rfl, rfl⟩, ⟨_, rfl, rfl⟩, ⟨_, rfl, rfl⟩, ⟨_, rfl, rfl⟩, ⟨_, rfl, rfl⟩, trivial⟩ trivial ?_
    refine W_seq rfl ?_
    refine W_reg rfl ?_
    refine Rv rfl rfl rfl (U_load2 rfl rfl rfl rfl) rfl rfl ?_
    refine Rv rfl rfl rfl (U_move rfl) rfl rfl ?_
    refine Rv rfl rfl rfl (U_call rfl rfl (mvG_p p c N (by assumption) (aft ((a % 8 : Nat) : Int) ((b % 8 : Nat) : Int)) (by first | assumption | omega)) rfl) rfl rfl ?_
    refine Rv rfl rfl rfl (U_move rfl) rfl rfl ?_
    refine Rv rfl rfl rfl (U_extract rfl rfl) rfl rfl ?_
    refine Rv rfl rfl rfl (U_extract rfl rfl) rfl rfl ?_
    refine Ra rfl rfl rfl (U_alloc) rfl rfl rfl ?_
    refine Rn rfl rfl rfl (U_storeAll rfl rfl rfl rfl rfl rfl) rfl ?_
    refine Rv rfl rfl rfl (U_assign rfl) rfl rfl ?_
    refine Re rfl ?_
    refine thenQ_n ?_
    refine WfrN 2 rfl rfl (T' := [(4, .rop [i64 p.n, .ros (p.ds.map i64) p.ds.length c] 0), (13, i64 0), (15, i64 0), (16, i64 (invM ((a % 8 : Nat) : Int))), (23, .rop [i64 ((movP p ((a % 8 : Nat) : Int)).n), .ros (((movP p ((a % 8 : Nat) : Int)).ds).map i64) (((movP p ((a % 8 : Nat) : Int)).ds).length) none] 0), (24, .rop [i64 ((movP (movP p ((a % 8 : Nat) : Int)) ((b % 8 : Nat) : Int)).n), .ros (((movP (movP p ((a % 8 : Nat) : Int)) ((b % 8 : Nat) : Int)).ds).map i64) (((movP (movP p ((a % 8 : Nat) : Int)) ((b % 8 : Nat) : Int)).ds).length) none] 0), (25, .rop [i64 ((movP p (aft ((a % 8 : Nat) : Int) ((b % 8 : Nat) : Int))).n), .ros (((movP p (aft ((a % 8 : Nat) : Int) ((b % 8 : Nat) : Int))).ds).map i64) (((movP p (aft ((a % 8 : Nat) : Int) ((b % 8 : Nat) : Int))).ds).length) none] 0)]) (H' := []) ⟨⟨_, rfl, rfl⟩, ⟨_, rfl, rfl⟩, ⟨_, rfl, rfl⟩, ⟨_, rfl, rfl⟩, ⟨_, rfl, rfl⟩, ⟨_, rfl, rfl⟩, ⟨_, rfl, rfl⟩, trivial⟩ trivial ?_
    refine W_seq rfl ?_
    refine W_reg rfl ?_
    refine Rv rfl rfl rfl (U_load2 rfl rfl rfl rfl) rfl rfl ?_
    refine Rv rfl rfl rfl (U_move rfl) rfl rfl ?_
    refine Rv rfl rfl rfl (U_call rfl rfl (mvG_p (movP p ((a % 8 : Nat) : Int)) none N (by assumption) (invM ((a % 8 : Nat) : Int)) (by first | assumption | omega)) rfl) rfl rfl ?_
    refine Rv rfl rfl rfl (U_move rfl) rfl rfl ?_
    refine Rv rfl rfl rfl (U_extract rfl rfl) rfl rfl ?_
    refine Rv rfl rfl rfl (U_extract rfl rfl) rfl rfl ?_
    refine Ra rfl rfl rfl (U_alloc) rfl rfl rfl ?_
    refine Rn rfl rfl rfl (U_storeAll rfl rfl rfl rfl rfl rfl) rfl ?_
    refine Rv rfl rfl rfl (U_assign rfl) rfl rfl ?_
    refine Re rfl ?_
    refine thenQ_n ?_
    refine WfrN 3 rfl rfl (T' := [(4, .rop [i64 p.n, .ros (p.ds.map i64) p.ds.length c] 0), (13, i64 0), (15, i64 0), (17, i64 0), (24, .rop [i64 ((movP (movP p ((a % 8 : Nat) : Int)) ((b % 8 : Nat) : Int)).n), .ros (((movP (movP p ((a % 8 : Nat) : Int)) ((b % 8 : Nat) : Int)).ds).map i64) (((movP (movP p ((a % 8 : Nat) : Int)) ((b % 8 : Nat) : Int)).ds).length) none] 0), (25, .rop [i64 ((movP p (aft ((a % 8 : Nat) : Int) ((b % 8 : Nat) : Int))).n), .ros (((movP p (aft ((a % 8 : Nat) : Int) ((b % 8 : Nat) : Int))).ds).map i64) (((movP p (aft ((a % 8 : Nat) : Int) ((b % 8 : Nat) : Int))).ds).length) none] 0), (26, .rop [i64 ((movP (movP p ((a % 8 : Nat) : Int)) (invM ((a % 8 : Nat) : Int))).n), .ros (((movP (movP p ((a % 8 : Nat) : Int)) (invM ((a % 8 : Nat) : Int))).ds).map i64) (((movP (movP p ((a % 8 : Nat) : Int)) (invM ((a % 8 : Nat) : Int))).ds).length) none] 0)]) (H' := []) ⟨⟨_, rfl, rfl⟩, ⟨_, rfl, rfl⟩, ⟨_, rfl, rfl⟩, ⟨_, rfl, rfl⟩, ⟨_, rfl, rfl⟩, ⟨_, rfl, rfl⟩, ⟨_, rfl, rfl⟩, trivial⟩ trivial ?_
    refine W_seq rfl ?_
    refine W_reg rfl ?_
    refine Rv rfl rfl rfl (U_move rfl) rfl rfl ?_
    refine Rv rfl rfl rfl (U_eql rfl rfl) rfl rfl ?_
    refine Rv rfl rfl rfl (U_move rfl) rfl rfl ?_
    refine Rv rfl rfl rfl (U_move rfl) rfl rfl ?_
    refine Rv rfl rfl rfl (U_eql rfl rfl) rfl rfl ?_
    refine Rv rfl rfl rfl (U_pick_t rfl rfl) rfl rfl ?_
    refine Rv rfl rfl rfl (U_move rfl) rfl rfl ?_
    refine Rv rfl rfl rfl (U_move rfl) rfl rfl ?_
    refine Rv rfl rfl rfl (U_eql rfl rfl) rfl rfl ?_
    refine Rv rfl rfl rfl (U_pick_t rfl rfl) rfl rfl ?_
    refine Rv rfl rfl rfl (U_move rfl) rfl rfl ?_
    refine Rv rfl rfl rfl (U_load2 rfl rfl rfl rfl) rfl rfl ?_
    refine Rv rfl rfl rfl (U_load2 rfl rfl rfl rfl) rfl rfl ?_
    refine Rv rfl rfl rfl (U_call rfl rfl (samE_p (movP (movP p ((a % 8 : Nat) : Int)) ((b % 8 : Nat) : Int)) (movP p (aft ((a % 8 : Nat) : Int) ((b % 8 : Nat) : Int))) none none (by assumption) (by assumption) (movP_aft hv ha hb)) rfl) rfl rfl ?_
    refine Rv rfl rfl rfl (U_pick_t rfl rfl) rfl rfl ?_
    refine Rv rfl rfl rfl (U_move rfl) rfl rfl ?_
    refine Rv rfl rfl rfl (U_load2 rfl rfl rfl rfl) rfl rfl ?_
    refine Rv rfl rfl rfl (U_load2 rfl rfl rfl rfl) rfl rfl ?_
    refine Rv rfl rfl rfl (U_call rfl rfl (samE_p (movP (movP p ((a % 8 : Nat) : Int)) (invM ((a % 8 : Nat) : Int))) p none c (by assumption) (by assumption) (movP_back hv ha)) rfl) rfl rfl ?_
    refine Rv rfl rfl rfl (U_pick_t rfl rfl) rfl rfl ?_
    refine Rv rfl rfl rfl (U_move rfl) rfl rfl ?_
    refine Rv rfl rfl rfl (U_call rfl rfl (works_p) rfl) rfl rfl ?_
    refine Rv rfl rfl rfl (U_pick_t rfl rfl) rfl rfl ?_
    refine Rv rfl rfl rfl (U_assign rfl) rfl rfl ?_
    refine Re rfl ?_
    refine thenQ_n ?_
    refine W_ret rfl ?_
    exact retL (rlT rfl rl0) rfl rfl
end Go.Proofs.Ythoodfiacfmhgaa
end
