import Derived.Test.YtapappdgdiaijaaM6
import Derived.Test.YtapappdgdiaijaaM3
import Derived.KernelRfl
section
/- Contracts of the reference, second part: bounds, the ends of the rate. -/
namespace Go.Proofs.Ytapappdgdiaijaa
set_option maxRecDepth 20000
open Go.AE
theorem boundOfR_p (s : Star) (c : Option Nat) (hg : Good s) (high : Bool) (a b : Int) (hp : isPairB s.es.length (a, b) = true) : Pure Try.prog 77 [starA s c, .bool high, i64 a, i64 b] (ratA (bnd s high (a, b))) := by
  refine pure_of_body Try.func77 (c := body Try.f77) rfl (by simp [Try.ntmps77]) fun w0 Φ0 => ?_
  refine W_seq rfl ?_
  refine W_reg rfl ?_
  refine Rv rfl rfl rfl (U_boxF rfl rfl rfl) rfl rfl ?_
  refine Ra rfl rfl rfl (U_alloc) rfl rfl rfl ?_
  refine Re rfl ?_
  refine thenQ_n ?_
  refine W_seq rfl ?_
  refine W_seq rfl ?_
  refine Wjoin ⟨[(1, .bool high), (2, i64 a), (3, i64 b), (4, .rop [i64 s.lo, i64 s.hi, .ros (s.es.flatMap entC) s.es.length c] 0), (8, .ptr 0 0), (15, .bool ((decide (a < 0)) && high))], [(0, some (.cells [i64 0, i64 0] 28))], 1, []⟩ ?_ ?_
  · refine W_reg rfl ?_
    refine Rv rfl rfl rfl (U_move rfl) rfl rfl ?_
    refine Rv rfl rfl rfl (U_lss rfl rfl) rfl rfl ?_
    refine Rv rfl rfl rfl (U_move rfl) rfl rfl ?_
    refine Rsplit (t := 13) rfl (fun hg1 => ?_) (fun hg1 => ?_)
    · rw [hg1]
      have hg1' : a < 0 := of_decide_eq_true hg1
      refine Rv rfl rfl rfl (U_move rfl) rfl rfl ?_
      refine Rv rfl rfl rfl (U_pick_t rfl rfl) rfl rfl ?_
      refine Re rfl ?_
      exact joinTo id ⟨eD rfl rfl, eD rfl rfl, eD rfl rfl, eD rfl rfl, e_ rfl rfl, eD rfl rfl, trivial⟩ ⟨rD rfl rfl rfl, trivial⟩ rfl rfl rfl rfl (fun _ _ => rfl)
    · rw [hg1]
      have hg1' : ¬ (a < 0) := of_decide_eq_false hg1
      refine Rs rfl rfl rfl rfl rfl ?_
      refine Rv rfl rfl rfl (U_pick_f rfl rfl) rfl rfl ?_
      refine Re rfl ?_
      exact joinTo id ⟨eD rfl rfl, eD rfl rfl, eD rfl rfl, eD rfl rfl, e_ rfl rfl, eD rfl rfl, trivial⟩ ⟨rD rfl rfl rfl, trivial⟩ rfl rfl rfl rfl (fun _ _ => rfl)
  refine thenQ_n ?_
  refine Wcond rfl rfl (fun hc0 => ?_) (fun hc0 => ?_)
  · have h0s := hc0
    simp only [Bool.and_eq_true, decide_eq_true_eq] at h0s
    refine W_seq rfl ?_
    refine W_reg rfl ?_
    refine Rv rfl rfl rfl (U_fieldAddrR rfl) rfl rfl ?_
    refine Rv rfl rfl rfl (U_fieldAddrR rfl) rfl rfl ?_
    refine Rv rfl rfl rfl (U_load1 rfl rfl rfl) rfl rfl ?_
    refine Rv rfl rfl rfl (U_call rfl rfl (whole_p s.hi) rfl) rfl rfl ?_
    refine Rn rfl rfl rfl (U_storeAll rfl rfl rfl rfl rfl rfl) rfl ?_
    refine Re rfl ?_
    refine thenQ_n ?_
    refine W_ret rfl ?_
    refine thenQ_r ?_
    exact retL (rlA rfl rfl rfl rl0) (by first | rfl | (simp only [packA]; rw [bnd, if_pos h0s.1, h0s.2, if_pos rfl, frac_one]; first | done | rfl) | (simp only [packA]; have hh : high = false := by { cases high with | false => rfl | true => exact absurd (show (decide (a < 0) && true) = true by simp; omega) hc0' }; rw [bnd, if_pos hc1, hh, if_neg (by simp), frac_one]; first | done | rfl) | (simp only [packA]; rw [bnd, if_neg (by simpa using hc1)]; simp only [hc2, if_true, ent_eq (show a.toNat < s.es.length by omega), ent_eq (show b.toNat < s.es.length by omega)]; first | done | rfl) | (simp only [packA]; rw [bnd, if_neg (by simpa using hc1)]; simp only [hc2, Bool.false_eq_true, if_false, ent_eq (show a.toNat < s.es.length by omega), ent_eq (show b.toNat < s.es.length by omega)]; first | done | rfl)) rfl
  · have hc0' := Bool.eq_false_iff.1 hc0
    refine W_skip rfl ?_
    refine thenQ_n ?_
    refine W_seq rfl ?_
    refine W_seq rfl ?_
    refine W_reg rfl ?_
    refine Rv rfl rfl rfl (U_move rfl) rfl rfl ?_
    refine Rv rfl rfl rfl (U_lss rfl rfl) rfl rfl ?_
    refine Re rfl ?_
    refine thenQ_n ?_
    refine WcondP rfl rfl (fun hc1 => ?_) (fun hc1 => ?_)
    · refine W_seq rfl ?_
      refine W_reg rfl ?_
      refine Rv rfl rfl rfl (U_fieldAddrR rfl) rfl rfl ?_
      refine Rv rfl rfl rfl (U_fieldAddrR rfl) rfl rfl ?_
      refine Rv rfl rfl rfl (U_load1 rfl rfl rfl) rfl rfl ?_
      refine Rv rfl rfl rfl (U_call rfl rfl (whole_p s.lo) rfl) rfl rfl ?_
      refine Rn rfl rfl rfl (U_storeAll rfl rfl rfl rfl rfl rfl) rfl ?_
      refine Re rfl ?_
      refine thenQ_n ?_
      refine W_ret rfl ?_
      refine thenQ_r ?_
      exact retL (rlA rfl rfl rfl rl0) (by first | rfl | (simp only [packA]; rw [bnd, if_pos h0s.1, h0s.2, if_pos rfl, frac_one]; first | done | rfl) | (simp only [packA]; have hh : high = false := by { cases high with | false => rfl | true => exact absurd (show (decide (a < 0) && true) = true by simp; omega) hc0' }; rw [bnd, if_pos hc1, hh, if_neg (by simp), frac_one]; first | done | rfl) | (simp only [packA]; rw [bnd, if_neg (by simpa using hc1)]; simp only [hc2, if_true, ent_eq (show a.toNat < s.es.length by omega), ent_eq (show b.toNat < s.es.length by omega)]; first | done | rfl) | (simp only [packA]; rw [bnd, if_neg (by simpa using hc1)]; simp only [hc2, Bool.false_eq_true, if_false, ent_eq (show a.toNat < s.es.length by omega), ent_eq (show b.toNat < s.es.length by omega)]; first | done | rfl)) rfl
    · have hab : 0 ≤ a ∧ a < b ∧ b < s.es.length := by simp [isPairB] at hp; omega
      have e1 := hg.es a.toNat (by omega)
      have e2 := hg.es b.toNat (by omega)
      have e3 := hg.inc a.toNat b.toNat (by omega) (by omega)
      refine W_skip rfl ?_
      refine thenQ_n ?_
      refine W_seq rfl ?_
      refine WdrawL [27, 30, 32, 35] rfl (by kernel_rfl) (by kernel_rfl) ?_
      refine Dv rfl rfl rfl (U_fieldAddrR rfl) rfl rfl ?_
      refine Dv rfl rfl rfl (U_load1 rfl rfl rfl) rfl rfl ?_
      refine Dv rfl rfl rfl (U_move rfl) rfl rfl ?_
      have hx2 : (a).toNat < s.es.length := by omega
      refine Dv rfl rfl rfl (U_indexR (j := (a).toNat) rfl rfl (by omega) hx2) rfl rfl ?_
      refine Dv rfl rfl rfl (U_load3 rfl rfl (ent0 hx2) (ent1 hx2) (ent2 hx2)) rfl rfl ?_
      refine Dv rfl rfl rfl (U_fieldAddrR rfl) rfl rfl ?_
      refine Dv rfl rfl rfl (U_load1 rfl rfl rfl) rfl rfl ?_
      refine Dv rfl rfl rfl (U_move rfl) rfl rfl ?_
      have hx3 : (b).toNat < s.es.length := by omega
      refine Dv rfl rfl rfl (U_indexR (j := (b).toNat) rfl rfl (by omega) hx3) rfl rfl ?_
      refine Dv rfl rfl rfl (U_load3 rfl rfl (ent0 hx3) (ent1 hx3) (ent2 hx3)) rfl rfl ?_
      refine Da rfl rfl rfl (U_alloc) rfl rfl rfl rfl ?_
      refine Da rfl rfl rfl (U_alloc) rfl rfl rfl rfl ?_
      refine Dn_ rfl rfl rfl (U_storeAll rfl rfl rfl rfl rfl rfl) rfl rfl ?_
      refine Dn_ rfl rfl rfl (U_storeAll rfl rfl rfl rfl rfl rfl) rfl rfl ?_
      refine Dr.nil rfl ?_
      refine thenQ_n ?_
      refine WfrN 1 rfl rfl (T' := [(1, .bool high), (8, .ptr 0 0), (9, .rop [i64 s.es[(a).toNat].y, i64 s.es[(a).toNat].lo, i64 s.es[(a).toNat].hi] 0), (10, .ptr 2 0)]) (H' := [(0, some (.cells [i64 0, i64 0] 28)), (2, some (.cells [i64 s.es[(b).toNat].y, i64 s.es[(b).toNat].lo, i64 s.es[(b).toNat].hi] 76))]) ⟨⟨_, rfl, rfl⟩, ⟨_, rfl, rfl⟩, ⟨_, rfl, rfl⟩, ⟨_, rfl, rfl⟩, trivial⟩ ⟨⟨rfl, rF rfl rfl⟩, ⟨rfl, rF rfl rfl⟩, trivial⟩ ?_
      refine WfrN 2 rfl rfl (T' := [(1, .bool high), (8, .ptr 0 0), (9, .rop [i64 s.es[(a).toNat].y, i64 s.es[(a).toNat].lo, i64 s.es[(a).toNat].hi] 0), (10, .rop [i64 s.es[(b).toNat].y, i64 s.es[(b).toNat].lo, i64 s.es[(b).toNat].hi] 0)]) (H' := [(0, some (.cells [i64 0, i64 0] 28))]) ⟨⟨_, rfl, rfl⟩, ⟨_, rfl, rfl⟩, ⟨_, rfl, rfl⟩, ⟨_, rfl, rfl⟩, trivial⟩ ⟨⟨rfl, rF rfl rfl⟩, trivial⟩ ?_
      refine W_seq rfl ?_
      refine W_seq rfl ?_
      refine W_reg rfl ?_
      refine Rv rfl rfl rfl (U_move rfl) rfl rfl ?_
      refine Re rfl ?_
      refine thenQ_n ?_
      refine Wcond rfl rfl (fun hc2 => ?_) (fun hc2 => ?_)
      · refine W_seq rfl ?_
        refine W_reg rfl ?_
        refine Rv rfl rfl rfl (U_fieldAddrR rfl) rfl rfl ?_
        refine Rv rfl rfl rfl (U_fieldAddrR rfl) rfl rfl ?_
        refine Rv rfl rfl rfl (U_load1 rfl rfl rfl) rfl rfl ?_
        refine Rv rfl rfl rfl (U_fieldAddrR rfl) rfl rfl ?_
        refine Rv rfl rfl rfl (U_fieldAddrR rfl) rfl rfl ?_
        refine Rv rfl rfl rfl (U_load1 rfl rfl rfl) rfl rfl ?_
        refine Rv rfl rfl rfl (U_sub rfl rfl (w64 (by omega) (by omega))) rfl rfl ?_
        refine Rv rfl rfl rfl (U_fieldAddrR rfl) rfl rfl ?_
        refine Rv rfl rfl rfl (U_load1 rfl rfl rfl) rfl rfl ?_
        refine Rv rfl rfl rfl (U_fieldAddrR rfl) rfl rfl ?_
        refine Rv rfl rfl rfl (U_load1 rfl rfl rfl) rfl rfl ?_
        refine Rv rfl rfl rfl (U_sub rfl rfl (w64 (by omega) (by omega))) rfl rfl ?_
        refine Rv rfl rfl rfl (U_call rfl rfl (fracR_p (s.es[(b).toNat].hi - s.es[(a).toNat].lo) (s.es[(b).toNat].y - s.es[(a).toNat].y) (by omega) (by omega)) rfl) rfl rfl ?_
        refine Rn rfl rfl rfl (U_storeAll rfl rfl rfl rfl rfl rfl) rfl ?_
        refine Re rfl ?_
        refine thenQ_n ?_
        refine W_ret rfl ?_
        refine thenQ_r ?_
        exact retL (rlA rfl rfl rfl rl0) (by first | rfl | (simp only [packA]; rw [bnd, if_pos h0s.1, h0s.2, if_pos rfl, frac_one]; first | done | rfl) | (simp only [packA]; have hh : high = false := by { cases high with | false => rfl | true => exact absurd (show (decide (a < 0) && true) = true by simp; omega) hc0' }; rw [bnd, if_pos hc1, hh, if_neg (by simp), frac_one]; first | done | rfl) | (simp only [packA]; rw [bnd, if_neg (by simpa using hc1)]; simp only [hc2, if_true, ent_eq (show a.toNat < s.es.length by omega), ent_eq (show b.toNat < s.es.length by omega)]; first | done | rfl) | (simp only [packA]; rw [bnd, if_neg (by simpa using hc1)]; simp only [hc2, Bool.false_eq_true, if_false, ent_eq (show a.toNat < s.es.length by omega), ent_eq (show b.toNat < s.es.length by omega)]; first | done | rfl)) rfl
      · have hc2' := Bool.eq_false_iff.1 hc2
        refine W_skip rfl ?_
        refine thenQ_n ?_
        refine W_seq rfl ?_
        refine W_reg rfl ?_
        refine Rv rfl rfl rfl (U_fieldAddrR rfl) rfl rfl ?_
        refine Rv rfl rfl rfl (U_fieldAddrR rfl) rfl rfl ?_
        refine Rv rfl rfl rfl (U_load1 rfl rfl rfl) rfl rfl ?_
        refine Rv rfl rfl rfl (U_fieldAddrR rfl) rfl rfl ?_
        refine Rv rfl rfl rfl (U_fieldAddrR rfl) rfl rfl ?_
        refine Rv rfl rfl rfl (U_load1 rfl rfl rfl) rfl rfl ?_
        refine Rv rfl rfl rfl (U_sub rfl rfl (w64 (by omega) (by omega))) rfl rfl ?_
        refine Rv rfl rfl rfl (U_fieldAddrR rfl) rfl rfl ?_
        refine Rv rfl rfl rfl (U_load1 rfl rfl rfl) rfl rfl ?_
        refine Rv rfl rfl rfl (U_fieldAddrR rfl) rfl rfl ?_
        refine Rv rfl rfl rfl (U_load1 rfl rfl rfl) rfl rfl ?_
        refine Rv rfl rfl rfl (U_sub rfl rfl (w64 (by omega) (by omega))) rfl rfl ?_
        refine Rv rfl rfl rfl (U_call rfl rfl (fracR_p (s.es[(b).toNat].lo - s.es[(a).toNat].hi) (s.es[(b).toNat].y - s.es[(a).toNat].y) (by omega) (by omega)) rfl) rfl rfl ?_
        refine Rn rfl rfl rfl (U_storeAll rfl rfl rfl rfl rfl rfl) rfl ?_
        refine Re rfl ?_
        refine thenQ_n ?_
        refine W_ret rfl ?_
        exact retL (rlA rfl rfl rfl rl0) (by first | rfl | (simp only [packA]; rw [bnd, if_pos h0s.1, h0s.2, if_pos rfl, frac_one]; first | done | rfl) | (simp only [packA]; have hh : high = false := by { cases high with | false => rfl | true => exact absurd (show (decide (a < 0) && true) = true by simp; omega) hc0' }; rw [bnd, if_pos hc1, hh, if_neg (by simp), frac_one]; first | done | rfl) | (simp only [packA]; rw [bnd, if_neg (by simpa using hc1)]; simp only [hc2, if_true, ent_eq (show a.toNat < s.es.length by omega), ent_eq (show b.toNat < s.es.length by omega)]; first | done | rfl) | (simp only [packA]; rw [bnd, if_neg (by simpa using hc1)]; simp only [hc2, Bool.false_eq_true, if_false, ent_eq (show a.toNat < s.es.length by omega), ent_eq (show b.toNat < s.es.length by omega)]; first | done | rfl)) rfl
theorem checkBoundR_p (s : Star) (c : Option Nat) (hl : s.es.length ≤ 1000) (high : Bool) (a b : Int) : Pure Try.prog 24 [starA s c, .bool high, i64 a, i64 b] (.tup [ratA (if cbS s (a, b) = 0 then bnd s high (a, b) else (0, 0)), i64 (cbS s (a, b))]) := by
  refine pure_of_body Try.func24 (c := body Try.f24) rfl (by simp [Try.ntmps24]) fun w0 Φ0 => ?_
  refine W_seq rfl ?_
  refine W_reg rfl ?_
  refine Rv rfl rfl rfl (U_boxF rfl rfl rfl) rfl rfl ?_
  refine Ra rfl rfl rfl (U_alloc) rfl rfl rfl ?_
  refine Rv rfl rfl rfl (U_assign rfl) rfl rfl ?_
  refine Re rfl ?_
  refine thenQ_n ?_
  refine W_seq rfl ?_
  refine W_seq rfl ?_
  refine W_reg rfl ?_
  refine Rv rfl rfl rfl (U_load3 rfl rfl rfl rfl rfl) rfl rfl ?_
  refine Rv rfl rfl rfl (U_call rfl rfl (chkR_p s c (by omega)) rfl) rfl rfl ?_
  refine Rv rfl rfl rfl (U_neq rfl rfl) rfl rfl ?_
  refine Re rfl ?_
  refine thenQ_n ?_
  refine WcondP rfl rfl (fun h0 => ?_) (fun h0 => ?_)
  · have hk : cbS s (a, b) = chkS s := by rw [cbS, if_neg h0]
    have hk0 : cbS s (a, b) ≠ 0 := by rw [hk]; exact h0
    refine W_seq rfl ?_
    refine W_reg rfl ?_
    refine Rv rfl rfl rfl (U_build rfl rfl) rfl rfl ?_
    refine Rv rfl rfl rfl (U_load3 rfl rfl rfl rfl rfl) rfl rfl ?_
    refine Rv rfl rfl rfl (U_call rfl rfl (chkR_p s c (by omega)) rfl) rfl rfl ?_
    refine Rn rfl rfl rfl (U_storeAll rfl rfl rfl rfl rfl rfl) rfl ?_
    refine Rv rfl rfl rfl (U_assign rfl) rfl rfl ?_
    refine Re rfl ?_
    refine thenQ_n ?_
    refine W_ret rfl ?_
    refine thenQ_r ?_
    exact retL (rlA rfl rfl rfl (rlT rfl rl0)) (by first | rfl | (simp only [packA]; rw [if_neg hk0, hk]; first | done | rfl) | (simp only [packA]; rw [if_pos hk, hk]; first | done | rfl)) rfl
  · rw [Decidable.not_not] at h0
    have hg := good_of h0
    refine W_skip rfl ?_
    refine thenQ_n ?_
    refine W_seq rfl ?_
    refine W_seq rfl ?_
    refine W_reg rfl ?_
    refine Rv rfl rfl rfl (U_load3 rfl rfl rfl rfl rfl) rfl rfl ?_
    refine Rv rfl rfl rfl (U_move rfl) rfl rfl ?_
    refine Rv rfl rfl rfl (U_move rfl) rfl rfl ?_
    refine Rv rfl rfl rfl (U_call rfl rfl (isPairR_p s c a b) rfl) rfl rfl ?_
    refine Rv rfl rfl rfl (U_not rfl) rfl rfl ?_
    refine Re rfl ?_
    refine thenQ_n ?_
    refine Wcond rfl rfl (fun hc1 => ?_) (fun hc1 => ?_)
    · have hk : cbS s (a, b) = 2 := by rw [cbS, if_pos h0, if_neg (by simpa using hc1)]
      have hk0 : cbS s (a, b) ≠ 0 := by omega
      refine W_seq rfl ?_
      refine W_reg rfl ?_
      refine Rv rfl rfl rfl (U_build rfl rfl) rfl rfl ?_
      refine Rn rfl rfl rfl (U_storeAll rfl rfl rfl rfl rfl rfl) rfl ?_
      refine Rv rfl rfl rfl (U_assign rfl) rfl rfl ?_
      refine Re rfl ?_
      refine thenQ_n ?_
      refine W_ret rfl ?_
      refine thenQ_r ?_
      exact retL (rlA rfl rfl rfl (rlT rfl rl0)) (by first | rfl | (simp only [packA]; rw [if_neg hk0, hk]; first | done | rfl) | (simp only [packA]; rw [if_pos hk, hk]; first | done | rfl)) rfl
    · have hc1' := Bool.eq_false_iff.1 hc1
      have hp : isPairB s.es.length (a, b) = true := by simpa using hc1
      have hk : cbS s (a, b) = 0 := by rw [cbS, if_pos h0, if_pos hp]
      refine W_skip rfl ?_
      refine thenQ_n ?_
      refine W_seq rfl ?_
      refine W_reg rfl ?_
      refine Rv rfl rfl rfl (U_load3 rfl rfl rfl rfl rfl) rfl rfl ?_
      refine Rv rfl rfl rfl (U_move rfl) rfl rfl ?_
      refine Rv rfl rfl rfl (U_move rfl) rfl rfl ?_
      refine Rv rfl rfl rfl (U_move rfl) rfl rfl ?_
      refine Rv rfl rfl rfl (U_call rfl rfl (boundOfR_p s c hg high a b (by first | assumption | (simp [isPairB]; omega))) rfl) rfl rfl ?_
      refine Rn rfl rfl rfl (U_storeAll rfl rfl rfl rfl rfl rfl) rfl ?_
      refine Rv rfl rfl rfl (U_assign rfl) rfl rfl ?_
      refine Re rfl ?_
      refine thenQ_n ?_
      refine W_ret rfl ?_
      exact retL (rlA rfl rfl rfl (rlT rfl rl0)) (by first | rfl | (simp only [packA]; rw [if_neg hk0, hk]; first | done | rfl) | (simp only [packA]; rw [if_pos hk, hk]; first | done | rfl)) rfl
theorem checkClashR_p (s : Star) (c : Option Nat) (hl : s.es.length ≤ 1000) (lo hi : Int × Int) : Pure Try.prog 31 [starA s c, pairA lo, pairA hi] (i64 (ccS s lo hi)) := by
  refine pure_of_body Try.func31 (c := body Try.f31) rfl (by simp [Try.ntmps31]) fun w0 Φ0 => ?_
  refine W_seq rfl ?_
  refine W_reg rfl ?_
  refine Rv rfl rfl rfl (U_boxF rfl rfl rfl) rfl rfl ?_
  refine Rv rfl rfl rfl (U_boxF rfl rfl rfl) rfl rfl ?_
  refine Rv rfl rfl rfl (U_boxF rfl rfl rfl) rfl rfl ?_
  refine Rv rfl rfl rfl (U_assign rfl) rfl rfl ?_
  refine Re rfl ?_
  refine thenQ_n ?_
  refine W_seq rfl ?_
  refine W_seq rfl ?_
  refine W_reg rfl ?_
  refine Rv rfl rfl rfl (U_load3 rfl rfl rfl rfl rfl) rfl rfl ?_
  refine Rv rfl rfl rfl (U_call rfl rfl (chkR_p s c (by omega)) rfl) rfl rfl ?_
  refine Rv rfl rfl rfl (U_neq rfl rfl) rfl rfl ?_
  refine Re rfl ?_
  refine thenQ_n ?_
  refine WcondP rfl rfl (fun h0 => ?_) (fun h0 => ?_)
  · have hk : ccS s lo hi = chkS s := by rw [ccS, if_neg h0]
    refine W_seq rfl ?_
    refine W_reg rfl ?_
    refine Rv rfl rfl rfl (U_load3 rfl rfl rfl rfl rfl) rfl rfl ?_
    refine Rv rfl rfl rfl (U_call rfl rfl (chkR_p s c (by omega)) rfl) rfl rfl ?_
    refine Rv rfl rfl rfl (U_assign rfl) rfl rfl ?_
    refine Re rfl ?_
    refine thenQ_n ?_
    refine W_ret rfl ?_
    refine thenQ_r ?_
    exact retL (rlT rfl rl0) (by first | rfl | (simp only [packA]; rw [hk]; first | done | rfl)) rfl
  · rw [Decidable.not_not] at h0
    have hg := good_of h0
    refine W_skip rfl ?_
    refine thenQ_n ?_
    refine W_seq rfl ?_
    refine W_seq rfl ?_
    refine Wjoin ⟨[(3, .rop [i64 s.lo, i64 s.hi, .ros (s.es.flatMap entC) s.es.length c] 0), (4, .rop [i64 lo.1, i64 lo.2] 0), (5, .rop [i64 hi.1, i64 hi.2] 0), (27, .bool ((!(isPairB s.es.length (lo.1, lo.2))) || (!(isPairB s.es.length (hi.1, hi.2)))))], [], 0, []⟩ ?_ ?_
    · refine W_reg rfl ?_
      refine Rv rfl rfl rfl (U_load3 rfl rfl rfl rfl rfl) rfl rfl ?_
      refine Rv rfl rfl rfl (U_indexAR (j := 0) rfl rfl rfl (by decide)) rfl rfl ?_
      refine Rv rfl rfl rfl (U_load1 rfl rfl rfl) rfl rfl ?_
      refine Rv rfl rfl rfl (U_indexAR (j := 1) rfl rfl rfl (by decide)) rfl rfl ?_
      refine Rv rfl rfl rfl (U_load1 rfl rfl rfl) rfl rfl ?_
      refine Rv rfl rfl rfl (U_call rfl rfl (isPairR_p s c lo.1 lo.2) rfl) rfl rfl ?_
      refine Rv rfl rfl rfl (U_not rfl) rfl rfl ?_
      refine Rv rfl rfl rfl (U_move rfl) rfl rfl ?_
      refine Rsplit (t := 19) rfl (fun hg1 => ?_) (fun hg1 => ?_)
      · rw [hg1]
        refine Rs rfl rfl rfl rfl rfl ?_
        refine Rs rfl rfl rfl rfl rfl ?_
        refine Rs rfl rfl rfl rfl rfl ?_
        refine Rs rfl rfl rfl rfl rfl ?_
        refine Rs rfl rfl rfl rfl rfl ?_
        refine Rs rfl rfl rfl rfl rfl ?_
        refine Rs rfl rfl rfl rfl rfl ?_
        refine Rv rfl rfl rfl (U_pick_t rfl rfl) rfl rfl ?_
        refine Re rfl ?_
        exact joinTo id ⟨eD rfl rfl, eD rfl rfl, eD rfl rfl, eD rfl rfl, trivial⟩ trivial rfl rfl rfl rfl (fun _ _ => rfl)
      · rw [hg1]
        refine Rv rfl rfl rfl (U_load3 rfl rfl rfl rfl rfl) rfl rfl ?_
        refine Rv rfl rfl rfl (U_indexAR (j := 0) rfl rfl rfl (by decide)) rfl rfl ?_
        refine Rv rfl rfl rfl (U_load1 rfl rfl rfl) rfl rfl ?_
        refine Rv rfl rfl rfl (U_indexAR (j := 1) rfl rfl rfl (by decide)) rfl rfl ?_
        refine Rv rfl rfl rfl (U_load1 rfl rfl rfl) rfl rfl ?_
        refine Rv rfl rfl rfl (U_call rfl rfl (isPairR_p s c hi.1 hi.2) rfl) rfl rfl ?_
        refine Rv rfl rfl rfl (U_not rfl) rfl rfl ?_
        refine Rv rfl rfl rfl (U_pick_f rfl rfl) rfl rfl ?_
        refine Re rfl ?_
        exact joinTo id ⟨eD rfl rfl, eD rfl rfl, eD rfl rfl, eD rfl rfl, trivial⟩ trivial rfl rfl rfl rfl (fun _ _ => rfl)
    refine thenQ_n ?_
    refine Wcond rfl rfl (fun hc1 => ?_) (fun hc1 => ?_)
    · have hk : ccS s lo hi = 2 := by rw [ccS, if_pos h0, if_pos (by simpa using hc1)]
      refine W_seq rfl ?_
      refine W_reg rfl ?_
      refine Rv rfl rfl rfl (U_assign rfl) rfl rfl ?_
      refine Re rfl ?_
      refine thenQ_n ?_
      refine W_ret rfl ?_
      refine thenQ_r ?_
      exact retL (rlT rfl rl0) (by first | rfl | (simp only [packA]; rw [hk]; first | done | rfl)) rfl
    · have hc1' := Bool.eq_false_iff.1 hc1
      have hpp : isPairB s.es.length lo = true ∧ isPairB s.es.length hi = true := by simpa using hc1
      have hp1 := hpp.1
      have hp2 := hpp.2
      have q1 := bd_prod (bnd_bd hg hpp.2 true) (bnd_bd hg hpp.1 false) (by omega)
      have q2 := bd_prod (bnd_bd hg hpp.1 false) (bnd_bd hg hpp.2 true) (by omega)
      refine W_skip rfl ?_
      refine thenQ_n ?_
      refine W_seq rfl ?_
      refine W_seq rfl ?_
      refine Wdraw rfl (by kernel_rfl) (by kernel_rfl) ?_
      refine Dv rfl rfl rfl (U_load3 rfl rfl rfl rfl rfl) rfl rfl ?_
      refine Dv rfl rfl rfl (U_indexAR (j := 0) rfl rfl rfl (by decide)) rfl rfl ?_
      refine Dv rfl rfl rfl (U_load1 rfl rfl rfl) rfl rfl ?_
      refine Dv rfl rfl rfl (U_indexAR (j := 1) rfl rfl rfl (by decide)) rfl rfl ?_
      refine Dv rfl rfl rfl (U_load1 rfl rfl rfl) rfl rfl ?_
      refine Dv rfl rfl rfl (U_call rfl rfl (boundOfR_p s c hg true hi.1 hi.2 (by first | assumption | (simp [isPairB]; omega))) rfl) rfl rfl ?_
      refine Dv rfl rfl rfl (U_load3 rfl rfl rfl rfl rfl) rfl rfl ?_
      refine Dv rfl rfl rfl (U_indexAR (j := 0) rfl rfl rfl (by decide)) rfl rfl ?_
      refine Dv rfl rfl rfl (U_load1 rfl rfl rfl) rfl rfl ?_
      refine Dv rfl rfl rfl (U_indexAR (j := 1) rfl rfl rfl (by decide)) rfl rfl ?_
      refine Dv rfl rfl rfl (U_load1 rfl rfl rfl) rfl rfl ?_
      refine Dv rfl rfl rfl (U_call rfl rfl (boundOfR_p s c hg false lo.1 lo.2 (by first | assumption | (simp [isPairB]; omega))) rfl) rfl rfl ?_
      refine Dv rfl rfl rfl (U_call rfl rfl (lessR_p (bnd s true (hi.1, hi.2)) (bnd s false (lo.1, lo.2)) (by omega) (by omega)) rfl) rfl rfl ?_
      refine Dv rfl rfl rfl (U_not rfl) rfl rfl ?_
      refine Dr.nil rfl ?_
      refine thenQ_n ?_
      refine Wcond rfl rfl (fun hc2 => ?_) (fun hc2 => ?_)
      · have hk : ccS s lo hi = 14 := by rw [ccS, if_pos h0, if_neg (by simpa using hpp), if_pos hc2]
        refine W_seq rfl ?_
        refine W_reg rfl ?_
        refine Rv rfl rfl rfl (U_assign rfl) rfl rfl ?_
        refine Re rfl ?_
        refine thenQ_n ?_
        refine W_ret rfl ?_
        refine thenQ_r ?_
        exact retL (rlT rfl rl0) (by first | rfl | (simp only [packA]; rw [hk]; first | done | rfl)) rfl
      · have hc2' := Bool.eq_false_iff.1 hc2
        have hk : ccS s lo hi = 0 := by rw [ccS, if_pos h0, if_neg (by simpa using hpp), if_neg (by simpa using hc2)]
        refine W_skip rfl ?_
        refine thenQ_n ?_
        refine W_seq rfl ?_
        refine W_reg rfl ?_
        refine Rv rfl rfl rfl (U_assign rfl) rfl rfl ?_
        refine Re rfl ?_
        refine thenQ_n ?_
        refine W_ret rfl ?_
        exact retL (rlT rfl rl0) (by first | rfl | (simp only [packA]; rw [hk]; first | done | rfl)) rfl
end Go.Proofs.Ytapappdgdiaijaa
end

section
/- Contracts of the statements' helpers, and Works. -/
namespace Go.Proofs.Ytapappdgdiaijaa
set_option maxRecDepth 20000
open Go.AE
def goodS : Star := ⟨-10, 10, [⟨0, 100, 104⟩, ⟨10, 120, 126⟩, ⟨30, 150, 156⟩]⟩
def badS : Star := ⟨-10, 10, [⟨0, 100, 104⟩, ⟨10, 120, 126⟩, ⟨20, 130, 131⟩, ⟨30, 150, 156⟩]⟩
theorem great_p (s : Star) (c : Option Nat) : Pure Try.prog 17 [starA s c] (.bool (decide (20 < s.es.length))) := by
  refine pure_of_body Try.func17 (c := body Try.f17) rfl (by simp [Try.ntmps17]) fun w0 Φ0 => ?_
  refine W_seq rfl ?_
  refine W_reg rfl ?_
  refine Rv rfl rfl rfl (U_boxF rfl rfl rfl) rfl rfl ?_
  refine Rv rfl rfl rfl (U_assign rfl) rfl rfl ?_
  refine Re rfl ?_
  refine thenQ_n ?_
  refine W_seq rfl ?_
  refine W_reg rfl ?_
  refine Rv rfl rfl rfl (U_fieldAddrR rfl) rfl rfl ?_
  refine Rv rfl rfl rfl (U_load1 rfl rfl rfl) rfl rfl ?_
  refine Rv rfl rfl rfl (U_lenOf rfl len_ros) rfl rfl ?_
  refine Rv rfl rfl rfl (U_gtr rfl rfl) rfl rfl ?_
  refine Rv rfl rfl rfl (U_assign rfl) rfl rfl ?_
  refine Re rfl ?_
  refine thenQ_n ?_
  refine W_ret rfl ?_
  exact retL (rlT rfl rl0) (by first | rfl | (simp only [packA]; have : decide ((20 : Int) < (s.es.length : Int)) = decide (20 < s.es.length) := decide_eq_decide.2 (by omega); rw [this]; first | done | rfl)) rfl
theorem entry_p (y lo hi : Int) : Pure Try.prog 53 [i64 y, i64 lo, i64 hi] (.agg [i64 y, i64 lo, i64 hi]) := by
  refine pure_of_body Try.func53 (c := body Try.f53) rfl (by simp [Try.ntmps53]) fun w0 Φ0 => ?_
  refine W_seq rfl ?_
  refine W_reg rfl ?_
  refine Ra rfl rfl rfl (U_alloc) rfl rfl rfl ?_
  refine Re rfl ?_
  refine thenQ_n ?_
  refine W_seq rfl ?_
  refine W_reg rfl ?_
  refine Rv rfl rfl rfl (U_move rfl) rfl rfl ?_
  refine Rv rfl rfl rfl (U_move rfl) rfl rfl ?_
  refine Rv rfl rfl rfl (U_move rfl) rfl rfl ?_
  refine Rv rfl rfl rfl (U_build rfl rfl) rfl rfl ?_
  refine Rv rfl rfl rfl (U_build rfl rfl) rfl rfl ?_
  refine Rn rfl rfl rfl (U_storeAll rfl rfl rfl rfl rfl rfl) rfl ?_
  refine Re rfl ?_
  refine thenQ_n ?_
  refine W_ret rfl ?_
  exact retL (rlA rfl rfl rfl rl0) rfl rfl
theorem star_p (l : List Ent) (c : Option Nat) : Pure Try.prog 97 [entsA l c] (starA ⟨-10, 10, l⟩ c) := by
  refine pure_of_body Try.func97 (c := body Try.f97) rfl (by simp [Try.ntmps97]) fun w0 Φ0 => ?_
  refine W_seq rfl ?_
  refine W_reg rfl ?_
  refine Ra rfl rfl rfl (U_alloc) rfl rfl rfl ?_
  refine Re rfl ?_
  refine thenQ_n ?_
  refine W_seq rfl ?_
  refine W_reg rfl ?_
  refine Rv rfl rfl rfl (U_build rfl rfl) rfl rfl ?_
  refine Rv rfl rfl rfl (U_move rfl) rfl rfl ?_
  refine Rv rfl rfl rfl (U_build rfl rfl) rfl rfl ?_
  refine Rn rfl rfl rfl (U_storeAll rfl rfl rfl rfl rfl rfl) rfl ?_
  refine Re rfl ?_
  refine thenQ_n ?_
  refine W_ret rfl ?_
  exact retL (rlA rfl rfl rfl rl0) (by first | rfl | (simp only [packA]; rfl; first | done | rfl)) rfl
theorem goodOf_p  : Pure Try.prog 60 [] (starA goodS (some 3)) := by
  refine pure_of_body Try.func60 (c := body Try.f60) rfl (by simp [Try.ntmps60]) fun w0 Φ0 => ?_
  refine W_seq rfl ?_
  refine W_reg rfl ?_
  refine Ra rfl rfl rfl (U_alloc) rfl rfl rfl ?_
  refine Re rfl ?_
  refine thenQ_n ?_
  refine W_seq rfl ?_
  refine W_reg rfl ?_
  refine Rv rfl rfl rfl (U_call rfl rfl (entry_p 0 100 104) rfl) rfl rfl ?_
  refine Rv rfl rfl rfl (U_call rfl rfl (entry_p 10 120 126) rfl) rfl rfl ?_
  refine Rv rfl rfl rfl (U_call rfl rfl (entry_p 30 150 156) rfl) rfl rfl ?_
  refine Rv rfl rfl rfl (U_buildSliceF (by rfl) (by decide) rfl rfl rfl) rfl rfl ?_
  refine Rv rfl rfl rfl (U_call rfl rfl (star_p [(⟨0, 100, 104⟩ : Ent), (⟨10, 120, 126⟩ : Ent), (⟨30, 150, 156⟩ : Ent)] (some 3)) rfl) rfl rfl ?_
  refine Rn rfl rfl rfl (U_storeAll rfl rfl rfl rfl rfl rfl) rfl ?_
  refine Re rfl ?_
  refine thenQ_n ?_
  refine W_ret rfl ?_
  exact retL (rlA rfl rfl rfl rl0) (by first | rfl | (simp only [packA]; rfl; first | done | rfl)) rfl
theorem badOf_p  : Pure Try.prog 61 [] (starA badS (some 4)) := by
  refine pure_of_body Try.func61 (c := body Try.f61) rfl (by simp [Try.ntmps61]) fun w0 Φ0 => ?_
  refine W_seq rfl ?_
  refine W_reg rfl ?_
  refine Ra rfl rfl rfl (U_alloc) rfl rfl rfl ?_
  refine Re rfl ?_
  refine thenQ_n ?_
  refine W_seq rfl ?_
  refine W_reg rfl ?_
  refine Rv rfl rfl rfl (U_call rfl rfl (entry_p 0 100 104) rfl) rfl rfl ?_
  refine Rv rfl rfl rfl (U_call rfl rfl (entry_p 10 120 126) rfl) rfl rfl ?_
  refine Rv rfl rfl rfl (U_call rfl rfl (entry_p 20 130 131) rfl) rfl rfl ?_
  refine Rv rfl rfl rfl (U_call rfl rfl (entry_p 30 150 156) rfl) rfl rfl ?_
  refine Rv rfl rfl rfl (U_buildSliceF (by rfl) (by decide) rfl rfl rfl) rfl rfl ?_
  refine Rv rfl rfl rfl (U_call rfl rfl (star_p [(⟨0, 100, 104⟩ : Ent), (⟨10, 120, 126⟩ : Ent), (⟨20, 130, 131⟩ : Ent), (⟨30, 150, 156⟩ : Ent)] (some 4)) rfl) rfl rfl ?_
  refine Rn rfl rfl rfl (U_storeAll rfl rfl rfl rfl rfl rfl) rfl ?_
  refine Re rfl ?_
  refine thenQ_n ?_
  refine W_ret rfl ?_
  exact retL (rlA rfl rfl rfl rl0) (by first | rfl | (simp only [packA]; rfl; first | done | rfl)) rfl
theorem fracOf_p (a b : Int) : Pure Try.prog 64 [i64 a, i64 b] (.agg [i64 a, i64 b]) := by
  refine pure_of_body Try.func64 (c := body Try.f64) rfl (by simp [Try.ntmps64]) fun w0 Φ0 => ?_
  refine W_seq rfl ?_
  refine W_reg rfl ?_
  refine Ra rfl rfl rfl (U_alloc) rfl rfl rfl ?_
  refine Re rfl ?_
  refine thenQ_n ?_
  refine W_seq rfl ?_
  refine W_reg rfl ?_
  refine Rv rfl rfl rfl (U_move rfl) rfl rfl ?_
  refine Rv rfl rfl rfl (U_move rfl) rfl rfl ?_
  refine Rv rfl rfl rfl (U_build rfl rfl) rfl rfl ?_
  refine Rn rfl rfl rfl (U_storeAll rfl rfl rfl rfl rfl rfl) rfl ?_
  refine Re rfl ?_
  refine thenQ_n ?_
  refine W_ret rfl ?_
  exact retL (rlA rfl rfl rfl rl0) rfl rfl
theorem motionM_p (a b c d : Int) : Pure Try.prog 62 [i64 a, i64 b, i64 c, i64 d] (motA (a, b) (c, d)) := by
  refine pure_of_body Try.func62 (c := body Try.f62) rfl (by simp [Try.ntmps62]) fun w0 Φ0 => ?_
  refine W_seq rfl ?_
  refine W_reg rfl ?_
  refine Ra rfl rfl rfl (U_alloc) rfl rfl rfl ?_
  refine Re rfl ?_
  refine thenQ_n ?_
  refine W_seq rfl ?_
  refine W_reg rfl ?_
  refine Rv rfl rfl rfl (U_move rfl) rfl rfl ?_
  refine Rv rfl rfl rfl (U_move rfl) rfl rfl ?_
  refine Rv rfl rfl rfl (U_call rfl rfl (fracOf_p a b) rfl) rfl rfl ?_
  refine Rv rfl rfl rfl (U_move rfl) rfl rfl ?_
  refine Rv rfl rfl rfl (U_move rfl) rfl rfl ?_
  refine Rv rfl rfl rfl (U_call rfl rfl (fracOf_p c d) rfl) rfl rfl ?_
  refine Rv rfl rfl rfl (U_build rfl rfl) rfl rfl ?_
  refine Rn rfl rfl rfl (U_storeAll rfl rfl rfl rfl rfl rfl) rfl ?_
  refine Re rfl ?_
  refine thenQ_n ?_
  refine W_ret rfl ?_
  exact retL (rlA rfl rfl rfl rl0) (by first | rfl | (simp only [packA]; rfl; first | done | rfl)) rfl
theorem of_p (l : List Int) (c : Option Nat) : Pure Try.prog 63 [intsA l c] (intsA l c) := by
  refine pure_of_body Try.func63 (c := body Try.f63) rfl (by simp [Try.ntmps63]) fun w0 Φ0 => ?_
  refine W_seq rfl ?_
  refine W_reg rfl ?_
  refine Rv rfl rfl rfl (U_assign rfl) rfl rfl ?_
  refine Re rfl ?_
  refine thenQ_n ?_
  refine W_seq rfl ?_
  refine W_reg rfl ?_
  refine Rv rfl rfl rfl (U_move rfl) rfl rfl ?_
  refine Rv rfl rfl rfl (U_assign rfl) rfl rfl ?_
  refine Re rfl ?_
  refine thenQ_n ?_
  refine W_ret rfl ?_
  exact retL (rlT rfl rl0) rfl rfl
theorem take_eq {l m : List Int} {k : Nat} (hk : k < l.length) (hm : k < m.length) (h : l.take k = m.take k) : l.take (k + 1) = m.take (k + 1) ↔ l[k] = m[k] := by
  rw [List.take_succ_eq_append_getElem hk, List.take_succ_eq_append_getElem hm, h]; simp only [List.append_cancel_left_eq, List.cons.injEq, and_true]
theorem ints_p (a b : List Int) (c d : Option Nat) (ha : a.length ≤ 1000000) (hb : b.length ≤ 1000000) : Pure Try.prog 65 [intsA a c, intsA b d] (.bool (decide (a = b))) := by
  refine pure_of_body Try.func65 (c := body Try.f65) rfl (by simp [Try.ntmps65]) fun w0 Φ0 => ?_
  refine W_seq rfl ?_
  refine W_reg rfl ?_
  refine Rv rfl rfl rfl (U_assign rfl) rfl rfl ?_
  refine Re rfl ?_
  refine thenQ_n ?_
  refine W_seq rfl ?_
  refine W_seq rfl ?_
  refine W_reg rfl ?_
  refine Rv rfl rfl rfl (U_move rfl) rfl rfl ?_
  refine Rv rfl rfl rfl (U_lenOf rfl len_ros) rfl rfl ?_
  refine Rv rfl rfl rfl (U_move rfl) rfl rfl ?_
  refine Rv rfl rfl rfl (U_lenOf rfl len_ros) rfl rfl ?_
  refine Rv rfl rfl rfl (U_neq rfl rfl) rfl rfl ?_
  refine Re rfl ?_
  refine thenQ_n ?_
  refine WcondP rfl rfl (fun hc0 => ?_) (fun hc0 => ?_)
  · have hne : a ≠ b := fun e => hc0 (by rw [e])
    refine W_seq rfl ?_
    refine W_reg rfl ?_
    refine Rv rfl rfl rfl (U_assign rfl) rfl rfl ?_
    refine Re rfl ?_
    refine thenQ_n ?_
    refine W_ret rfl ?_
    refine thenQ_r ?_
    exact retL (rlT rfl rl0) (by first | rfl | (simp only [packA]; rw [decide_eq_false hne]; first | done | rfl) | (simp only [packA]; have heq : a = b := by { have := hi0_1; rw [List.take_length, hlen, List.take_length] at this; exact this }; rw [decide_eq_true heq]; first | done | rfl)) rfl
  · rw [Decidable.not_not] at hc0
    have hlen : a.length = b.length := by omega
    refine W_skip rfl ?_
    refine thenQ_n ?_
    refine W_seq rfl ?_
    refine W_seq rfl ?_
    refine W_reg rfl ?_
    refine Rv rfl rfl rfl (U_assign rfl) rfl rfl ?_
    refine Re rfl ?_
    refine thenQ_n ?_
    refine W_block rfl ?_
    refine LoopTo (T' := [(0, .ros (a.map i64) a.length c), (1, .ros (b.map i64) b.length d), (5, i64 ((0 : Nat) : Int))]) (H' := []) (n := 0) rfl (fun mz_ qz_ => ∃ (k : Nat), k ≤ a.length ∧ a.take k = b.take k ∧ mz_ = a.length - k ∧ qz_ = ⟨[(0, .ros (a.map i64) a.length c), (1, .ros (b.map i64) b.length d), (5, i64 ((k : Nat) : Int))], [], 0, []⟩) ⟨0, (by omega), (by simp), rfl, rfl⟩ id ⟨eD rfl rfl, eD rfl rfl, eD rfl rfl, trivial⟩ trivial rfl rfl rfl rfl (fun _ _ => rfl) ?_
    rintro _ _ ⟨k, hi0_0, hi0_1, rfl, rfl⟩
    refine W_seq rfl ?_
    refine W_seq rfl ?_
    refine W_reg rfl ?_
    refine Rv rfl rfl rfl (U_move rfl) rfl rfl ?_
    refine Rv rfl rfl rfl (U_move rfl) rfl rfl ?_
    refine Rv rfl rfl rfl (U_lenOf rfl len_ros) rfl rfl ?_
    refine Rv rfl rfl rfl (U_lss rfl rfl) rfl rfl ?_
    refine Re rfl ?_
    refine thenQ_n ?_
    refine WcondP rfl rfl (fun hc1 => ?_) (fun hc1 => ?_)
    · have hk1 : k < a.length := by omega
      have hk2 : k < b.length := by omega
      refine W_skip rfl ?_
      refine thenQ_n ?_
      refine W_seq rfl ?_
      refine W_block rfl ?_
      refine W_seq rfl ?_
      refine Wdraw rfl (by kernel_rfl) (by kernel_rfl) ?_
      refine Dv rfl rfl rfl (U_move rfl) rfl rfl ?_
      refine Dv rfl rfl rfl (U_move rfl) rfl rfl ?_
      have hx1 : k < a.length := by omega
      refine Dv rfl rfl rfl (U_indexR (j := k) rfl rfl rfl hx1) rfl rfl ?_
      refine Dv rfl rfl rfl (U_load1 rfl rfl (getM hx1)) rfl rfl ?_
      refine Dv rfl rfl rfl (U_move rfl) rfl rfl ?_
      refine Dv rfl rfl rfl (U_move rfl) rfl rfl ?_
      have hx2 : k < b.length := by omega
      refine Dv rfl rfl rfl (U_indexR (j := k) rfl rfl rfl hx2) rfl rfl ?_
      refine Dv rfl rfl rfl (U_load1 rfl rfl (getM hx2)) rfl rfl ?_
      refine Dv rfl rfl rfl (U_neq rfl rfl) rfl rfl ?_
      refine Dr.nil rfl ?_
      refine thenQ_n ?_
      refine WcondP rfl rfl (fun hc2 => ?_) (fun hc2 => ?_)
      · have hne : a ≠ b := fun e => hc2 (by subst e; rfl)
        refine W_seq rfl ?_
        refine W_reg rfl ?_
        refine Rv rfl rfl rfl (U_assign rfl) rfl rfl ?_
        refine Re rfl ?_
        refine thenQ_n ?_
        refine W_ret rfl ?_
        refine blkQ_r ?_
        refine thenQ_r ?_
        refine thenQ_r ?_
        refine blkQ_r ?_
        refine thenQ_r ?_
        exact retL (rlT rfl rl0) (by first | rfl | (simp only [packA]; rw [decide_eq_false hne]; first | done | rfl) | (simp only [packA]; have heq : a = b := by { have := hi0_1; rw [List.take_length, hlen, List.take_length] at this; exact this }; rw [decide_eq_true heq]; first | done | rfl)) rfl
      · rw [Decidable.not_not] at hc2
        refine W_skip rfl ?_
        refine blkQ_n ?_
        refine thenQ_n ?_
        refine W_reg rfl ?_
        refine Rv rfl rfl rfl (U_move rfl) rfl rfl ?_
        refine Rv rfl rfl rfl (U_add rfl rfl (w64e (m := ((k + 1 : Nat) : Int)) (by omega) (by omega) (by omega))) rfl rfl ?_
        refine Rv rfl rfl rfl (U_assign rfl) rfl rfl ?_
        refine Re rfl ?_
        refine thenQ_n ?_
        exact againTo (T' := [(0, .ros (a.map i64) a.length c), (1, .ros (b.map i64) b.length d), (5, i64 (((k + 1) : Nat) : Int))]) (H' := []) (n := 0) (a.length - (k + 1)) ⟨k + 1, (by omega), ((take_eq hk1 hk2 hi0_1).2 hc2), rfl, rfl⟩ (by omega) id ⟨eD rfl rfl, eD rfl rfl, eD rfl rfl, trivial⟩ trivial rfl rfl rfl rfl (fun _ _ => rfl)
    · obtain rfl : k = a.length := by omega
      refine W_exit rfl ?_
      refine thenQ_x ?_
      refine thenQ_x ?_
      refine blkQ_x rfl ?_
      refine thenQ_n ?_
      refine W_seq rfl ?_
      refine W_reg rfl ?_
      refine Rv rfl rfl rfl (U_assign rfl) rfl rfl ?_
      refine Re rfl ?_
      refine thenQ_n ?_
      refine W_ret rfl ?_
      exact retL (rlT rfl rl0) (by first | rfl | (simp only [packA]; rw [decide_eq_false hne]; first | done | rfl) | (simp only [packA]; have heq : a = b := by { have := hi0_1; rw [List.take_length, hlen, List.take_length] at this; exact this }; rw [decide_eq_true heq]; first | done | rfl)) rfl
/-- The place of a motion in a year. -/
def atQ (p v : Int × Int) (y : Int) : Int × Int := frac (p.1 * v.2 + v.1 * y * p.2) (p.2 * v.2)
/-- A fraction within the limits of a motion. -/
def Lim (q : Int × Int) : Prop := (-8589934592 ≤ q.1 ∧ q.1 ≤ 8589934592) ∧ 1 ≤ q.2 ∧ q.2 ≤ 40000
theorem at_p (p v : Int × Int) (y : Int) (hp : Lim p) (hv : Lim v) (hy : -1000 ≤ y ∧ y ≤ 1000) : Pure Try.prog 37 [motA p v, i64 y] (ratA (atQ p v y)) := by
  obtain ⟨⟨p1, p2⟩, p3, p4⟩ := hp; obtain ⟨⟨v1, v2⟩, v3, v4⟩ := hv
  have q1 := mulB p1 p2 (show -40000 ≤ v.2 by omega) v4
  have q2 := mulB v1 v2 hy.1 hy.2
  have q3 := mulB q2.1 q2.2 (show -40000 ≤ p.2 by omega) p4
  have q4 := mulB (show -40000 ≤ p.2 by omega) p4 (show -40000 ≤ v.2 by omega) v4
  have q5 : 1 ≤ p.2 * v.2 := Int.mul_pos (by omega) (by omega)
  refine pure_of_body Try.func37 (c := body Try.f37) rfl (by simp [Try.ntmps37]) fun w0 Φ0 => ?_
  refine W_seq rfl ?_
  refine W_reg rfl ?_
  refine Rv rfl rfl rfl (U_boxF rfl rfl rfl) rfl rfl ?_
  refine Ra rfl rfl rfl (U_alloc) rfl rfl rfl ?_
  refine Re rfl ?_
  refine thenQ_n ?_
  refine W_seq rfl ?_
  refine W_reg rfl ?_
  refine Rv rfl rfl rfl (U_fieldAddrR rfl) rfl rfl ?_
  refine Rv rfl rfl rfl (U_fieldAddrR rfl) rfl rfl ?_
  refine Rv rfl rfl rfl (U_load1 rfl rfl rfl) rfl rfl ?_
  refine Rv rfl rfl rfl (U_fieldAddrR rfl) rfl rfl ?_
  refine Rv rfl rfl rfl (U_fieldAddrR rfl) rfl rfl ?_
  refine Rv rfl rfl rfl (U_load1 rfl rfl rfl) rfl rfl ?_
  refine Rv rfl rfl rfl (U_mul rfl rfl (w64 (by omega) (by omega))) rfl rfl ?_
  refine Rv rfl rfl rfl (U_fieldAddrR rfl) rfl rfl ?_
  refine Rv rfl rfl rfl (U_fieldAddrR rfl) rfl rfl ?_
  refine Rv rfl rfl rfl (U_load1 rfl rfl rfl) rfl rfl ?_
  refine Rv rfl rfl rfl (U_move rfl) rfl rfl ?_
  refine Rv rfl rfl rfl (U_mul rfl rfl (w64 (by omega) (by omega))) rfl rfl ?_
  refine Rv rfl rfl rfl (U_fieldAddrR rfl) rfl rfl ?_
  refine Rv rfl rfl rfl (U_fieldAddrR rfl) rfl rfl ?_
  refine Rv rfl rfl rfl (U_load1 rfl rfl rfl) rfl rfl ?_
  refine Rv rfl rfl rfl (U_mul rfl rfl (w64 (by omega) (by omega))) rfl rfl ?_
  refine Rv rfl rfl rfl (U_add rfl rfl (w64 (by omega) (by omega))) rfl rfl ?_
  refine Rv rfl rfl rfl (U_fieldAddrR rfl) rfl rfl ?_
  refine Rv rfl rfl rfl (U_fieldAddrR rfl) rfl rfl ?_
  refine Rv rfl rfl rfl (U_load1 rfl rfl rfl) rfl rfl ?_
  refine Rv rfl rfl rfl (U_fieldAddrR rfl) rfl rfl ?_
  refine Rv rfl rfl rfl (U_fieldAddrR rfl) rfl rfl ?_
  refine Rv rfl rfl rfl (U_load1 rfl rfl rfl) rfl rfl ?_
  refine Rv rfl rfl rfl (U_mul rfl rfl (w64 (by omega) (by omega))) rfl rfl ?_
  refine Rv rfl rfl rfl (U_call rfl rfl (fracR_p ((p.1 * v.2) + ((v.1 * y) * p.2)) (p.2 * v.2) (by omega) (by omega)) rfl) rfl rfl ?_
  refine Rn rfl rfl rfl (U_storeAll rfl rfl rfl rfl rfl rfl) rfl ?_
  refine Re rfl ?_
  refine thenQ_n ?_
  refine W_ret rfl ?_
  exact retL (rlA rfl rfl rfl rl0) (by first | rfl | (simp only [packA]; rfl; first | done | rfl)) rfl
end Go.Proofs.Ytapappdgdiaijaa
end

section
/- Works: the examples of the chapter. -/
namespace Go.Proofs.Ytapappdgdiaijaa
set_option maxRecDepth 20000
open Go.AE
theorem g1 : cbS goodS (0, 1) = 0 ∧ bnd goodS true (0, 1) = (13, 5) ∧ cbS goodS (1, 0) = 2 := by decide +kernel
theorem g2 : movS goodS = 0 ∧ endQ goodS false = (8, 5) ∧ endQ goodS true = (9, 5) ∧ movS badS = 17 := by decide +kernel
theorem g3 : plcS goodS 20 = 0 ∧ lowQ goodS 20 = (136, 1) ∧ highQ goodS 20 = (416, 3) ∧ movP goodS 20 true = (104, 1) ∧ movR goodS 20 true = (26, 15) := by decide +kernel
theorem g4 : chkM goodS (104, 1) (8, 5) = 0 ∧ chkM goodS (104, 1) (3, 2) = 17 ∧ chkM goodS (104, 1) (26, 15) = 0 ∧ atQ (104, 1) (26, 15) 20 = (416, 3) := by decide +kernel
theorem g5 : ccS badS (2, 3) (1, 2) = 0 ∧ ccS badS (0, 1) (0, 3) = 14 ∧ clS badS = 0 ∧ bestP badS false = (2, 3) ∧ bestP badS true = (1, 2) := by decide +kernel
theorem g6 : chkS badS = 0 ∧ fewQ badS = 1 ∧ leftQ badS = [2] ∧ kndS badS 2 = 0 ∧ kindQ badS 2 = 2 := by decide +kernel
theorem g7 : leftS badS [1] = 17 ∧ bestP goodS true = (1, 2) ∧ cbS goodS (1, 2) = 0 ∧ bnd goodS true (1, 2) = (9, 5) := by decide +kernel
theorem gl : goodS.es.length = 3 := rfl
theorem bl : badS.es.length = 4 := rfl
theorem w1_p : Pure Try.prog 23 [starA goodS (some 3), .bool true, i64 0, i64 1] (.tup [.agg [i64 13, i64 5], i64 0]) := by have h := checkBound_p goodS (some 3) (by decide) true 0 1; simp only [g1.1, g1.2.1, if_true] at h; exact h
theorem w2_p : Pure Try.prog 23 [starA goodS (some 3), .bool false, i64 1, i64 0] (.tup [.agg [i64 0, i64 0], i64 2]) := by have h := checkBound_p goodS (some 3) (by decide) false 1 0; simp only [g1.2.2, show ¬ (2 : Int) = 0 by decide, if_false] at h; exact h
theorem w3_p : Pure Try.prog 32 [starA goodS (some 3)] (.tup [.agg [i64 8, i64 5], .agg [i64 9, i64 5], i64 0]) := by have h := rate_p goodS (some 3) (by decide); simp only [g2.1, g2.2.1, g2.2.2.1, if_true] at h; exact h
theorem w4_p : Pure Try.prog 32 [starA badS (some 4)] (.tup [.agg [i64 0, i64 0], .agg [i64 0, i64 0], i64 17]) := by have h := rate_p badS (some 4) (by decide); simp only [g2.2.2.2, show ¬ (17 : Int) = 0 by decide, if_false] at h; exact h
theorem w5_p : Pure Try.prog 34 [starA goodS (some 3), i64 20] (.tup [.agg [i64 136, i64 1], .agg [i64 416, i64 3], i64 0]) := by have h := place_p goodS (some 3) (by decide) 20; simp only [g3.1, g3.2.1, g3.2.2.1, if_true] at h; exact h
theorem w6_p : Pure Try.prog 36 [starA goodS (some 3), i64 20, .bool true] (.tup [.agg [i64 104, i64 1, i64 26, i64 15], i64 0]) := by have h := motionOf_p goodS (some 3) (by decide) 20 true; simp only [g3.1, g3.2.2.2.1, g3.2.2.2.2, if_true] at h; exact h
theorem w7_p : Pure Try.prog 21 [starA goodS (some 3), .agg [i64 104, i64 1, i64 8, i64 5]] (i64 0) := by have h := checkMotion_p goodS (some 3) (by decide) (104, 1) (8, 5); simp only [g4.1] at h; exact h
theorem w8_p : Pure Try.prog 21 [starA goodS (some 3), .agg [i64 104, i64 1, i64 3, i64 2]] (i64 17) := by have h := checkMotion_p goodS (some 3) (by decide) (104, 1) (3, 2); simp only [g4.2.1] at h; exact h
theorem w9_p : Pure Try.prog 22 [starA goodS (some 3), .agg [i64 104, i64 1, i64 26, i64 15]] (i64 0) := by have h := checkMotionR_p goodS (some 3) (by decide) (104, 1) (26, 15); simp only [g4.2.2.1] at h; exact h
theorem w10_p : Pure Try.prog 37 [.agg [i64 104, i64 1, i64 26, i64 15], i64 20] (.agg [i64 416, i64 3]) := by have h := at_p (104, 1) (26, 15) 20 ⟨by decide, by decide⟩ ⟨by decide, by decide⟩ (by decide); simp only [g4.2.2.2] at h; exact h
theorem w11_p : Pure Try.prog 30 [starA badS (some 4), .agg [i64 2, i64 3], .agg [i64 1, i64 2]] (i64 0) := by have h := checkClash_p badS (some 4) (by decide) (2, 3) (1, 2); simp only [g5.1] at h; exact h
theorem w12_p : Pure Try.prog 30 [starA badS (some 4), .agg [i64 0, i64 1], .agg [i64 0, i64 3]] (i64 14) := by have h := checkClash_p badS (some 4) (by decide) (0, 1) (0, 3); simp only [g5.2.1] at h; exact h
theorem w13_p : Pure Try.prog 31 [starA badS (some 4), .agg [i64 2, i64 3], .agg [i64 1, i64 2]] (i64 0) := by have h := checkClashR_p badS (some 4) (by decide) (2, 3) (1, 2); simp only [g5.1] at h; exact h
theorem w14_p : Pure Try.prog 28 [starA badS (some 4)] (.tup [.agg [i64 2, i64 3], .agg [i64 1, i64 2], i64 0]) := by have h := clash_p badS (some 4) (by decide); simp only [g5.2.2.1, g5.2.2.2.1, g5.2.2.2.2, if_true] at h; exact h
theorem w15_p : Pure Try.prog 38 [starA badS (some 4)] (.tup [i64 1, i64 0]) := by have h := fewest_p badS (some 4) (by decide); simp only [g6.1, g6.2.1, if_true] at h; exact h
theorem w16_p : Pure Try.prog 40 [starA badS (some 4)] (.tup [intsA [2] none, i64 0]) := by have h := leftOf_p badS (some 4) (by decide); simp only [g6.1, g6.2.2.1, if_true] at h; exact h
theorem w17_p : Pure Try.prog 41 [starA badS (some 4), i64 2] (.tup [i64 2, i64 0]) := by have h := kind_p badS (some 4) (by decide) 2; simp only [g6.2.2.2.1, g6.2.2.2.2, if_true] at h; exact h
theorem w18_p : Pure Try.prog 43 [starA badS (some 4), intsA [1] (some 1)] (i64 17) := by have h := checkLeft_p badS (some 4) (by decide) [1] (some 1) (by decide); simp only [g7.1] at h; exact h
theorem w19_p : Pure Try.prog 25 [starA goodS (some 3), .bool true] (.tup [i64 1, i64 2, i64 0]) := by have h := boundOf_p goodS (some 3) (by decide) true; simp only [g2.1, g7.2.1, if_true] at h; exact h
theorem w20_p : Pure Try.prog 24 [starA goodS (some 3), .bool true, i64 1, i64 2] (.tup [.agg [i64 9, i64 5], i64 0]) := by have h := checkBoundR_p goodS (some 3) (by decide) true 1 2; simp only [g7.2.2.1, g7.2.2.2, if_true] at h; exact h
theorem w21_p : Pure Try.prog 65 [intsA [2] none, intsA [2] (some 1)] (.bool true) := by have h := ints_p [2] [2] none (some 1) (by decide) (by decide); simp only [show decide (([2] : List Int) = [2]) = true by decide] at h; exact h
theorem works_p  : Pure Try.prog 18 [] (.bool true) := by
  refine pure_of_body Try.func18 (c := body Try.f18) rfl (by simp [Try.ntmps18]) fun w0 Φ0 => ?_
  refine W_seq rfl ?_
  refine W_reg rfl ?_
  refine Rv rfl rfl rfl (U_assign rfl) rfl rfl ?_
  refine Re rfl ?_
  refine thenQ_n ?_
  refine W_seq rfl ?_
  refine W_reg rfl ?_
  refine Rv rfl rfl rfl (U_call rfl rfl (goodOf_p) rfl) rfl rfl ?_
  refine Rv rfl rfl rfl (U_call rfl rfl (badOf_p) rfl) rfl rfl ?_
  refine Ra rfl rfl rfl (U_alloc) rfl rfl rfl ?_
  refine Ra rfl rfl rfl (U_alloc) rfl rfl rfl ?_
  refine Rn rfl rfl rfl (U_storeAll rfl rfl rfl rfl rfl rfl) rfl ?_
  refine Rn rfl rfl rfl (U_storeAll rfl rfl rfl rfl rfl rfl) rfl ?_
  refine Re rfl ?_
  refine thenQ_n ?_
  refine WfrN 0 rfl rfl (T' := [(1, .rop [i64 goodS.lo, i64 goodS.hi, .ros (goodS.es.flatMap entC) goodS.es.length (some 3)] 0), (2, .ptr 1 0)]) (H' := [(1, some (.cells [i64 badS.lo, i64 badS.hi, .ros (badS.es.flatMap entC) badS.es.length (some 4)] 26))]) ⟨⟨_, rfl, rfl⟩, ⟨_, rfl, rfl⟩, trivial⟩ ⟨⟨rfl, rF rfl rfl⟩, trivial⟩ ?_
  refine WfrN 1 rfl rfl (T' := [(1, .rop [i64 goodS.lo, i64 goodS.hi, .ros (goodS.es.flatMap entC) goodS.es.length (some 3)] 0), (2, .rop [i64 badS.lo, i64 badS.hi, .ros (badS.es.flatMap entC) badS.es.length (some 4)] 0)]) (H' := []) ⟨⟨_, rfl, rfl⟩, ⟨_, rfl, rfl⟩, trivial⟩ trivial ?_
  refine W_seq rfl ?_
  refine W_reg rfl ?_
  refine Rv rfl rfl rfl (U_load3 rfl rfl rfl rfl rfl) rfl rfl ?_
  refine Rv rfl rfl rfl (U_call rfl rfl (w1_p) rfl) rfl rfl ?_
  refine Rv rfl rfl rfl (U_move rfl) rfl rfl ?_
  refine Rv rfl rfl rfl (U_extract rfl rfl) rfl rfl ?_
  refine Rv rfl rfl rfl (U_extract rfl rfl) rfl rfl ?_
  refine Ra rfl rfl rfl (U_alloc) rfl rfl rfl ?_
  refine Rn rfl rfl rfl (U_storeAll rfl rfl rfl rfl rfl rfl) rfl ?_
  refine Rv rfl rfl rfl (U_assign rfl) rfl rfl ?_
  refine Re rfl ?_
  refine thenQ_n ?_
  refine WfrN 2 rfl rfl (T' := [(1, .rop [i64 goodS.lo, i64 goodS.hi, .ros (goodS.es.flatMap entC) goodS.es.length (some 3)] 0), (2, .rop [i64 badS.lo, i64 badS.hi, .ros (badS.es.flatMap entC) badS.es.length (some 4)] 0), (3, .rop [i64 13, i64 5] 0), (4, i64 0)]) (H' := []) ⟨⟨_, rfl, rfl⟩, ⟨_, rfl, rfl⟩, ⟨_, rfl, rfl⟩, ⟨_, rfl, rfl⟩, trivial⟩ trivial ?_
  refine W_seq rfl ?_
  refine W_reg rfl ?_
  refine Rv rfl rfl rfl (U_load3 rfl rfl rfl rfl rfl) rfl rfl ?_
  refine Rv rfl rfl rfl (U_call rfl rfl (w2_p) rfl) rfl rfl ?_
  refine Rv rfl rfl rfl (U_move rfl) rfl rfl ?_
  refine Rv rfl rfl rfl (U_extract rfl rfl) rfl rfl ?_
  refine Rv rfl rfl rfl (U_extract rfl rfl) rfl rfl ?_
  refine Ra rfl rfl rfl (U_alloc) rfl rfl rfl ?_
  refine Rn rfl rfl rfl (U_storeAll rfl rfl rfl rfl rfl rfl) rfl ?_
  refine Rv rfl rfl rfl (U_assign rfl) rfl rfl ?_
  refine Re rfl ?_
  refine thenQ_n ?_
  refine W_seq rfl ?_
  refine W_reg rfl ?_
  refine Rv rfl rfl rfl (U_load3 rfl rfl rfl rfl rfl) rfl rfl ?_
  refine Rv rfl rfl rfl (U_call rfl rfl (w3_p) rfl) rfl rfl ?_
  refine Rv rfl rfl rfl (U_move rfl) rfl rfl ?_
  refine Rv rfl rfl rfl (U_extract rfl rfl) rfl rfl ?_
  refine Rv rfl rfl rfl (U_extract rfl rfl) rfl rfl ?_
  refine Rv rfl rfl rfl (U_extract rfl rfl) rfl rfl ?_
  refine Ra rfl rfl rfl (U_alloc) rfl rfl rfl ?_
  refine Ra rfl rfl rfl (U_alloc) rfl rfl rfl ?_
  refine Rn rfl rfl rfl (U_storeAll rfl rfl rfl rfl rfl rfl) rfl ?_
  refine Rn rfl rfl rfl (U_storeAll rfl rfl rfl rfl rfl rfl) rfl ?_
  refine Rv rfl rfl rfl (U_assign rfl) rfl rfl ?_
  refine Re rfl ?_
  refine thenQ_n ?_
  refine WfrN 4 rfl rfl (T' := [(1, .rop [i64 goodS.lo, i64 goodS.hi, .ros (goodS.es.flatMap entC) goodS.es.length (some 3)] 0), (2, .rop [i64 badS.lo, i64 badS.hi, .ros (badS.es.flatMap entC) badS.es.length (some 4)] 0), (3, .rop [i64 13, i64 5] 0), (4, i64 0), (6, i64 2), (7, .rop [i64 8, i64 5] 0), (8, .ptr 5 0), (9, i64 0)]) (H' := [(5, some (.cells [i64 9, i64 5] 28))]) ⟨⟨_, rfl, rfl⟩, ⟨_, rfl, rfl⟩, ⟨_, rfl, rfl⟩, ⟨_, rfl, rfl⟩, ⟨_, rfl, rfl⟩, ⟨_, rfl, rfl⟩, ⟨_, rfl, rfl⟩, ⟨_, rfl, rfl⟩, trivial⟩ ⟨⟨rfl, rF rfl rfl⟩, trivial⟩ ?_
  refine WfrN 5 rfl rfl (T' := [(1, .rop [i64 goodS.lo, i64 goodS.hi, .ros (goodS.es.flatMap entC) goodS.es.length (some 3)] 0), (2, .rop [i64 badS.lo, i64 badS.hi, .ros (badS.es.flatMap entC) badS.es.length (some 4)] 0), (3, .rop [i64 13, i64 5] 0), (4, i64 0), (6, i64 2), (7, .rop [i64 8, i64 5] 0), (8, .rop [i64 9, i64 5] 0), (9, i64 0)]) (H' := []) ⟨⟨_, rfl, rfl⟩, ⟨_, rfl, rfl⟩, ⟨_, rfl, rfl⟩, ⟨_, rfl, rfl⟩, ⟨_, rfl, rfl⟩, ⟨_, rfl, rfl⟩, ⟨_, rfl, rfl⟩, ⟨_, rfl, rfl⟩, trivial⟩ trivial ?_
  refine W_seq rfl ?_
  refine W_reg rfl ?_
  refine Rv rfl rfl rfl (U_load3 rfl rfl rfl rfl rfl) rfl rfl ?_
  refine Rv rfl rfl rfl (U_call rfl rfl (w4_p) rfl) rfl rfl ?_
  refine Rv rfl rfl rfl (U_move rfl) rfl rfl ?_
  refine Rv rfl rfl rfl (U_extract rfl rfl) rfl rfl ?_
  refine Rv rfl rfl rfl (U_extract rfl rfl) rfl rfl ?_
  refine Rv rfl rfl rfl (U_extract rfl rfl) rfl rfl ?_
  refine Ra rfl rfl rfl (U_alloc) rfl rfl rfl ?_
  refine Ra rfl rfl rfl (U_alloc) rfl rfl rfl ?_
  refine Rn rfl rfl rfl (U_storeAll rfl rfl rfl rfl rfl rfl) rfl ?_
  refine Rn rfl rfl rfl (U_storeAll rfl rfl rfl rfl rfl rfl) rfl ?_
  refine Rv rfl rfl rfl (U_assign rfl) rfl rfl ?_
  refine Re rfl ?_
  refine thenQ_n ?_
  refine W_seq rfl ?_
  refine W_reg rfl ?_
  refine Rv rfl rfl rfl (U_load3 rfl rfl rfl rfl rfl) rfl rfl ?_
  refine Rv rfl rfl rfl (U_call rfl rfl (w5_p) rfl) rfl rfl ?_
  refine Rv rfl rfl rfl (U_move rfl) rfl rfl ?_
  refine Rv rfl rfl rfl (U_extract rfl rfl) rfl rfl ?_
  refine Rv rfl rfl rfl (U_extract rfl rfl) rfl rfl ?_
  refine Rv rfl rfl rfl (U_extract rfl rfl) rfl rfl ?_
  refine Ra rfl rfl rfl (U_alloc) rfl rfl rfl ?_
  refine Ra rfl rfl rfl (U_alloc) rfl rfl rfl ?_
  refine Rn rfl rfl rfl (U_storeAll rfl rfl rfl rfl rfl rfl) rfl ?_
  refine Rn rfl rfl rfl (U_storeAll rfl rfl rfl rfl rfl rfl) rfl ?_
  refine Rv rfl rfl rfl (U_assign rfl) rfl rfl ?_
  refine Re rfl ?_
  refine thenQ_n ?_
  refine WfrN 8 rfl rfl (T' := [(1, .rop [i64 goodS.lo, i64 goodS.hi, .ros (goodS.es.flatMap entC) goodS.es.length (some 3)] 0), (2, .rop [i64 badS.lo, i64 badS.hi, .ros (badS.es.flatMap entC) badS.es.length (some 4)] 0), (3, .rop [i64 13, i64 5] 0), (4, i64 0), (6, i64 2), (7, .rop [i64 8, i64 5] 0), (8, .rop [i64 9, i64 5] 0), (9, i64 0), (12, i64 17), (13, .rop [i64 136, i64 1] 0), (14, .ptr 9 0), (15, i64 0)]) (H' := [(9, some (.cells [i64 416, i64 3] 28))]) ⟨⟨_, rfl, rfl⟩, ⟨_, rfl, rfl⟩, ⟨_, rfl, rfl⟩, ⟨_, rfl, rfl⟩, ⟨_, rfl, rfl⟩, ⟨_, rfl, rfl⟩, ⟨_, rfl, rfl⟩, ⟨_, rfl, rfl⟩, ⟨_, rfl, rfl⟩, ⟨_, rfl, rfl⟩, ⟨_, rfl, rfl⟩, ⟨_, rfl, rfl⟩, trivial⟩ ⟨⟨rfl, rF rfl rfl⟩, trivial⟩ ?_
  refine WfrN 9 rfl rfl (T' := [(1, .rop [i64 goodS.lo, i64 goodS.hi, .ros (goodS.es.flatMap entC) goodS.es.length (some 3)] 0), (2, .rop [i64 badS.lo, i64 badS.hi, .ros (badS.es.flatMap entC) badS.es.length (some 4)] 0), (3, .rop [i64 13, i64 5] 0), (4, i64 0), (6, i64 2), (7, .rop [i64 8, i64 5] 0), (8, .rop [i64 9, i64 5] 0), (9, i64 0), (12, i64 17), (13, .rop [i64 136, i64 1] 0), (14, .rop [i64 416, i64 3] 0), (15, i64 0)]) (H' := []) ⟨⟨_, rfl, rfl⟩, ⟨_, rfl, rfl⟩, ⟨_, rfl, rfl⟩, ⟨_, rfl, rfl⟩, ⟨_, rfl, rfl⟩, ⟨_, rfl, rfl⟩, ⟨_, rfl, rfl⟩, ⟨_, rfl, rfl⟩, ⟨_, rfl, rfl⟩, ⟨_, rfl, rfl⟩, ⟨_, rfl, rfl⟩, ⟨_, rfl, rfl⟩, trivial⟩ trivial ?_
  refine W_seq rfl ?_
  refine Wdraw rfl (by kernel_rfl) (by kernel_rfl) ?_
  refine Dv rfl rfl rfl (U_load3 rfl rfl rfl rfl rfl) rfl rfl ?_
  refine Dv rfl rfl rfl (U_call rfl rfl (motionM_p 104 1 8 5) rfl) rfl rfl ?_
  refine Dv rfl rfl rfl (U_call rfl rfl (w7_p) rfl) rfl rfl ?_
  refine Dv rfl rfl rfl (U_load3 rfl rfl rfl rfl rfl) rfl rfl ?_
  refine Dv rfl rfl rfl (U_call rfl rfl (motionM_p 104 1 3 2) rfl) rfl rfl ?_
  refine Dv rfl rfl rfl (U_call rfl rfl (w8_p) rfl) rfl rfl ?_
  refine Dv rfl rfl rfl (U_assign rfl) rfl rfl ?_
  refine Dv rfl rfl rfl (U_assign rfl) rfl rfl ?_
  refine Dr.nil rfl ?_
  refine thenQ_n ?_
  refine W_seq rfl ?_
  refine Wdraw rfl (by kernel_rfl) (by kernel_rfl) ?_
  refine Dv rfl rfl rfl (U_load3 rfl rfl rfl rfl rfl) rfl rfl ?_
  refine Dv rfl rfl rfl (U_build rfl rfl) rfl rfl ?_
  refine Dv rfl rfl rfl (U_build rfl rfl) rfl rfl ?_
  refine Dv rfl rfl rfl (U_call rfl rfl (w11_p) rfl) rfl rfl ?_
  refine Dv rfl rfl rfl (U_load3 rfl rfl rfl rfl rfl) rfl rfl ?_
  refine Dv rfl rfl rfl (U_build rfl rfl) rfl rfl ?_
  refine Dv rfl rfl rfl (U_build rfl rfl) rfl rfl ?_
  refine Dv rfl rfl rfl (U_call rfl rfl (w12_p) rfl) rfl rfl ?_
  refine Dv rfl rfl rfl (U_assign rfl) rfl rfl ?_
  refine Dv rfl rfl rfl (U_assign rfl) rfl rfl ?_
  refine Dr.nil rfl ?_
  refine thenQ_n ?_
  refine W_seq rfl ?_
  refine W_reg rfl ?_
  refine Rv rfl rfl rfl (U_load3 rfl rfl rfl rfl rfl) rfl rfl ?_
  refine Rv rfl rfl rfl (U_call rfl rfl (w14_p) rfl) rfl rfl ?_
  refine Rv rfl rfl rfl (U_move rfl) rfl rfl ?_
  refine Rv rfl rfl rfl (U_extract rfl rfl) rfl rfl ?_
  refine Rv rfl rfl rfl (U_extract rfl rfl) rfl rfl ?_
  refine Rv rfl rfl rfl (U_extract rfl rfl) rfl rfl ?_
  refine Ra rfl rfl rfl (U_alloc) rfl rfl rfl ?_
  refine Ra rfl rfl rfl (U_alloc) rfl rfl rfl ?_
  refine Rn rfl rfl rfl (U_storeAll rfl rfl rfl rfl rfl rfl) rfl ?_
  refine Rn rfl rfl rfl (U_storeAll rfl rfl rfl rfl rfl rfl) rfl ?_
  refine Rv rfl rfl rfl (U_assign rfl) rfl rfl ?_
  refine Re rfl ?_
  refine thenQ_n ?_
  refine WfrN 10 rfl rfl (T' := [(1, .rop [i64 goodS.lo, i64 goodS.hi, .ros (goodS.es.flatMap entC) goodS.es.length (some 3)] 0), (2, .rop [i64 badS.lo, i64 badS.hi, .ros (badS.es.flatMap entC) badS.es.length (some 4)] 0), (3, .rop [i64 13, i64 5] 0), (4, i64 0), (6, i64 2), (7, .rop [i64 8, i64 5] 0), (8, .rop [i64 9, i64 5] 0), (9, i64 0), (12, i64 17), (13, .rop [i64 136, i64 1] 0), (14, .rop [i64 416, i64 3] 0), (15, i64 0), (16, i64 0), (17, i64 17), (18, i64 0), (19, i64 14), (20, .rop [i64 2, i64 3] 0), (21, .ptr 11 0), (22, i64 0)]) (H' := [(11, some (.cells [i64 1, i64 2] 44))]) ⟨⟨_, rfl, rfl⟩, ⟨_, rfl, rfl⟩, ⟨_, rfl, rfl⟩, ⟨_, rfl, rfl⟩, ⟨_, rfl, rfl⟩, ⟨_, rfl, rfl⟩, ⟨_, rfl, rfl⟩, ⟨_, rfl, rfl⟩, ⟨_, rfl, rfl⟩, ⟨_, rfl, rfl⟩, ⟨_, rfl, rfl⟩, ⟨_, rfl, rfl⟩, ⟨_, rfl, rfl⟩, ⟨_, rfl, rfl⟩, ⟨_, rfl, rfl⟩, ⟨_, rfl, rfl⟩, ⟨_, rfl, rfl⟩, ⟨_, rfl, rfl⟩, ⟨_, rfl, rfl⟩, trivial⟩ ⟨⟨rfl, rF rfl rfl⟩, trivial⟩ ?_
  refine WfrN 11 rfl rfl (T' := [(1, .rop [i64 goodS.lo, i64 goodS.hi, .ros (goodS.es.flatMap entC) goodS.es.length (some 3)] 0), (2, .rop [i64 badS.lo, i64 badS.hi, .ros (badS.es.flatMap entC) badS.es.length (some 4)] 0), (3, .rop [i64 13, i64 5] 0), (4, i64 0), (6, i64 2), (7, .rop [i64 8, i64 5] 0), (8, .rop [i64 9, i64 5] 0), (9, i64 0), (12, i64 17), (13, .rop [i64 136, i64 1] 0), (14, .rop [i64 416, i64 3] 0), (15, i64 0), (16, i64 0), (17, i64 17), (18, i64 0), (19, i64 14), (20, .rop [i64 2, i64 3] 0), (21, .rop [i64 1, i64 2] 0), (22, i64 0)]) (H' := []) ⟨⟨_, rfl, rfl⟩, ⟨_, rfl, rfl⟩, ⟨_, rfl, rfl⟩, ⟨_, rfl, rfl⟩, ⟨_, rfl, rfl⟩, ⟨_, rfl, rfl⟩, ⟨_, rfl, rfl⟩, ⟨_, rfl, rfl⟩, ⟨_, rfl, rfl⟩, ⟨_, rfl, rfl⟩, ⟨_, rfl, rfl⟩, ⟨_, rfl, rfl⟩, ⟨_, rfl, rfl⟩, ⟨_, rfl, rfl⟩, ⟨_, rfl, rfl⟩, ⟨_, rfl, rfl⟩, ⟨_, rfl, rfl⟩, ⟨_, rfl, rfl⟩, ⟨_, rfl, rfl⟩, trivial⟩ trivial ?_
  refine W_seq rfl ?_
  refine W_reg rfl ?_
  refine Rv rfl rfl rfl (U_load3 rfl rfl rfl rfl rfl) rfl rfl ?_
  refine Rv rfl rfl rfl (U_call rfl rfl (w15_p) rfl) rfl rfl ?_
  refine Rv rfl rfl rfl (U_move rfl) rfl rfl ?_
  refine Rv rfl rfl rfl (U_extract rfl rfl) rfl rfl ?_
  refine Rv rfl rfl rfl (U_extract rfl rfl) rfl rfl ?_
  refine Rv rfl rfl rfl (U_assign rfl) rfl rfl ?_
  refine Rv rfl rfl rfl (U_assign rfl) rfl rfl ?_
  refine Re rfl ?_
  refine thenQ_n ?_
  refine W_seq rfl ?_
  refine W_reg rfl ?_
  refine Rv rfl rfl rfl (U_load3 rfl rfl rfl rfl rfl) rfl rfl ?_
  refine Rv rfl rfl rfl (U_call rfl rfl (w16_p) rfl) rfl rfl ?_
  refine Rv rfl rfl rfl (U_move rfl) rfl rfl ?_
  refine Rv rfl rfl rfl (U_extract rfl rfl) rfl rfl ?_
  refine Rv rfl rfl rfl (U_extract rfl rfl) rfl rfl ?_
  refine Rv rfl rfl rfl (U_assign rfl) rfl rfl ?_
  refine Rv rfl rfl rfl (U_assign rfl) rfl rfl ?_
  refine Re rfl ?_
  refine thenQ_n ?_
  refine W_seq rfl ?_
  refine W_reg rfl ?_
  refine Rv rfl rfl rfl (U_load3 rfl rfl rfl rfl rfl) rfl rfl ?_
  refine Rv rfl rfl rfl (U_call rfl rfl (w17_p) rfl) rfl rfl ?_
  refine Rv rfl rfl rfl (U_move rfl) rfl rfl ?_
  refine Rv rfl rfl rfl (U_extract rfl rfl) rfl rfl ?_
  refine Rv rfl rfl rfl (U_extract rfl rfl) rfl rfl ?_
  refine Rv rfl rfl rfl (U_assign rfl) rfl rfl ?_
  refine Rv rfl rfl rfl (U_assign rfl) rfl rfl ?_
  refine Re rfl ?_
  refine thenQ_n ?_
  refine W_seq rfl ?_
  refine W_reg rfl ?_
  refine Rv rfl rfl rfl (U_load3 rfl rfl rfl rfl rfl) rfl rfl ?_
  refine Rv rfl rfl rfl (U_call rfl rfl (w19_p) rfl) rfl rfl ?_
  refine Rv rfl rfl rfl (U_move rfl) rfl rfl ?_
  refine Rv rfl rfl rfl (U_extract rfl rfl) rfl rfl ?_
  refine Rv rfl rfl rfl (U_extract rfl rfl) rfl rfl ?_
  refine Rv rfl rfl rfl (U_extract rfl rfl) rfl rfl ?_
  refine Rv rfl rfl rfl (U_assign rfl) rfl rfl ?_
  refine Rv rfl rfl rfl (U_assign rfl) rfl rfl ?_
  refine Rv rfl rfl rfl (U_assign rfl) rfl rfl ?_
  refine Re rfl ?_
  refine thenQ_n ?_
  refine W_seq rfl ?_
  refine W_reg rfl ?_
  refine Rv rfl rfl rfl (U_load3 rfl rfl rfl rfl rfl) rfl rfl ?_
  refine Rv rfl rfl rfl (U_call rfl rfl (w6_p) rfl) rfl rfl ?_
  refine Rv rfl rfl rfl (U_move rfl) rfl rfl ?_
  refine Rv rfl rfl rfl (U_extract rfl rfl) rfl rfl ?_
  refine Rv rfl rfl rfl (U_extract rfl rfl) rfl rfl ?_
  refine Ra rfl rfl rfl (U_alloc) rfl rfl rfl ?_
  refine Rn rfl rfl rfl (U_storeAll rfl rfl rfl rfl rfl rfl) rfl ?_
  refine Rv rfl rfl rfl (U_assign rfl) rfl rfl ?_
  refine Re rfl ?_
  refine thenQ_n ?_
  refine WfrN 12 rfl rfl (T' := [(1, .rop [i64 goodS.lo, i64 goodS.hi, .ros (goodS.es.flatMap entC) goodS.es.length (some 3)] 0), (2, .rop [i64 badS.lo, i64 badS.hi, .ros (badS.es.flatMap entC) badS.es.length (some 4)] 0), (3, .rop [i64 13, i64 5] 0), (4, i64 0), (6, i64 2), (7, .rop [i64 8, i64 5] 0), (8, .rop [i64 9, i64 5] 0), (9, i64 0), (12, i64 17), (13, .rop [i64 136, i64 1] 0), (14, .rop [i64 416, i64 3] 0), (15, i64 0), (16, i64 0), (17, i64 17), (18, i64 0), (19, i64 14), (20, .rop [i64 2, i64 3] 0), (21, .rop [i64 1, i64 2] 0), (22, i64 0), (23, i64 1), (24, i64 0), (25, .ros ([2].map i64) ([2].length) none), (26, i64 0), (27, i64 2), (28, i64 0), (29, i64 1), (30, i64 2), (31, i64 0), (32, .rop [i64 104, i64 1, i64 26, i64 15] 0), (33, i64 0)]) (H' := []) ⟨⟨_, rfl, rfl⟩, ⟨_, rfl, rfl⟩, ⟨_, rfl, rfl⟩, ⟨_, rfl, rfl⟩, ⟨_, rfl, rfl⟩, ⟨_, rfl, rfl⟩, ⟨_, rfl, rfl⟩, ⟨_, rfl, rfl⟩, ⟨_, rfl, rfl⟩, ⟨_, rfl, rfl⟩, ⟨_, rfl, rfl⟩, ⟨_, rfl, rfl⟩, ⟨_, rfl, rfl⟩, ⟨_, rfl, rfl⟩, ⟨_, rfl, rfl⟩, ⟨_, rfl, rfl⟩, ⟨_, rfl, rfl⟩, ⟨_, rfl, rfl⟩, ⟨_, rfl, rfl⟩, ⟨_, rfl, rfl⟩, ⟨_, rfl, rfl⟩, ⟨_, rfl, rfl⟩, ⟨_, rfl, rfl⟩, ⟨_, rfl, rfl⟩, ⟨_, rfl, rfl⟩, ⟨_, rfl, rfl⟩, ⟨_, rfl, rfl⟩, ⟨_, rfl, rfl⟩, ⟨_, rfl, rfl⟩, ⟨_, rfl, rfl⟩, trivial⟩ trivial ?_
  refine W_seq rfl ?_
  refine Wdraw rfl (by kernel_rfl) (by kernel_rfl) ?_
  refine Dv rfl rfl rfl (U_load3 rfl rfl rfl rfl rfl) rfl rfl ?_
  refine Dv rfl rfl rfl (U_buildSliceF (by rfl) (by decide) rfl rfl rfl) rfl rfl ?_
  refine Dv rfl rfl rfl (U_call rfl rfl (of_p [1] (some 1)) rfl) rfl rfl ?_
  refine Dv rfl rfl rfl (U_call rfl rfl (w18_p) rfl) rfl rfl ?_
  refine Dv rfl rfl rfl (U_assign rfl) rfl rfl ?_
  refine Dr.nil rfl ?_
  refine thenQ_n ?_
  refine W_seq rfl ?_
  refine W_seq rfl ?_
  refine W_reg rfl ?_
  refine Rv rfl rfl rfl (U_move rfl) rfl rfl ?_
  refine Rv rfl rfl rfl (U_neq rfl rfl) rfl rfl ?_
  refine Rv rfl rfl rfl (U_move rfl) rfl rfl ?_
  refine Rv rfl rfl rfl (U_move rfl) rfl rfl ?_
  refine Rv rfl rfl rfl (U_neq rfl rfl) rfl rfl ?_
  refine Rv rfl rfl rfl (U_pick_f rfl rfl) rfl rfl ?_
  refine Rv rfl rfl rfl (U_move rfl) rfl rfl ?_
  refine Rv rfl rfl rfl (U_move rfl) rfl rfl ?_
  refine Rv rfl rfl rfl (U_neq rfl rfl) rfl rfl ?_
  refine Rv rfl rfl rfl (U_pick_f rfl rfl) rfl rfl ?_
  refine Rv rfl rfl rfl (U_move rfl) rfl rfl ?_
  refine Rv rfl rfl rfl (U_move rfl) rfl rfl ?_
  refine Rv rfl rfl rfl (U_neq rfl rfl) rfl rfl ?_
  refine Rv rfl rfl rfl (U_pick_f rfl rfl) rfl rfl ?_
  refine Rv rfl rfl rfl (U_move rfl) rfl rfl ?_
  refine Rv rfl rfl rfl (U_move rfl) rfl rfl ?_
  refine Rv rfl rfl rfl (U_neq rfl rfl) rfl rfl ?_
  refine Rv rfl rfl rfl (U_pick_f rfl rfl) rfl rfl ?_
  refine Rv rfl rfl rfl (U_move rfl) rfl rfl ?_
  refine Rv rfl rfl rfl (U_move rfl) rfl rfl ?_
  refine Rv rfl rfl rfl (U_neq rfl rfl) rfl rfl ?_
  refine Rv rfl rfl rfl (U_pick_f rfl rfl) rfl rfl ?_
  refine Rv rfl rfl rfl (U_move rfl) rfl rfl ?_
  refine Rv rfl rfl rfl (U_move rfl) rfl rfl ?_
  refine Rv rfl rfl rfl (U_neq rfl rfl) rfl rfl ?_
  refine Rv rfl rfl rfl (U_pick_f rfl rfl) rfl rfl ?_
  refine Rv rfl rfl rfl (U_move rfl) rfl rfl ?_
  refine Rv rfl rfl rfl (U_move rfl) rfl rfl ?_
  refine Rv rfl rfl rfl (U_neq rfl rfl) rfl rfl ?_
  refine Rv rfl rfl rfl (U_pick_f rfl rfl) rfl rfl ?_
  refine Rv rfl rfl rfl (U_move rfl) rfl rfl ?_
  refine Rv rfl rfl rfl (U_move rfl) rfl rfl ?_
  refine Rv rfl rfl rfl (U_neq rfl rfl) rfl rfl ?_
  refine Rv rfl rfl rfl (U_pick_f rfl rfl) rfl rfl ?_
  refine Rv rfl rfl rfl (U_move rfl) rfl rfl ?_
  refine Rv rfl rfl rfl (U_move rfl) rfl rfl ?_
  refine Rv rfl rfl rfl (U_neq rfl rfl) rfl rfl ?_
  refine Rv rfl rfl rfl (U_pick_f rfl rfl) rfl rfl ?_
  refine Rv rfl rfl rfl (U_move rfl) rfl rfl ?_
  refine Rv rfl rfl rfl (U_move rfl) rfl rfl ?_
  refine Rv rfl rfl rfl (U_neq rfl rfl) rfl rfl ?_
  refine Rv rfl rfl rfl (U_pick_f rfl rfl) rfl rfl ?_
  refine Rv rfl rfl rfl (U_move rfl) rfl rfl ?_
  refine Rv rfl rfl rfl (U_move rfl) rfl rfl ?_
  refine Rv rfl rfl rfl (U_neq rfl rfl) rfl rfl ?_
  refine Rv rfl rfl rfl (U_pick_f rfl rfl) rfl rfl ?_
  refine Rv rfl rfl rfl (U_move rfl) rfl rfl ?_
  refine Rv rfl rfl rfl (U_move rfl) rfl rfl ?_
  refine Rv rfl rfl rfl (U_neq rfl rfl) rfl rfl ?_
  refine Rv rfl rfl rfl (U_pick_f rfl rfl) rfl rfl ?_
  refine Rv rfl rfl rfl (U_move rfl) rfl rfl ?_
  refine Rv rfl rfl rfl (U_move rfl) rfl rfl ?_
  refine Rv rfl rfl rfl (U_neq rfl rfl) rfl rfl ?_
  refine Rv rfl rfl rfl (U_pick_f rfl rfl) rfl rfl ?_
  refine Rv rfl rfl rfl (U_move rfl) rfl rfl ?_
  refine Rv rfl rfl rfl (U_move rfl) rfl rfl ?_
  refine Rv rfl rfl rfl (U_neq rfl rfl) rfl rfl ?_
  refine Rv rfl rfl rfl (U_pick_f rfl rfl) rfl rfl ?_
  refine Rv rfl rfl rfl (U_move rfl) rfl rfl ?_
  refine Rv rfl rfl rfl (U_move rfl) rfl rfl ?_
  refine Rv rfl rfl rfl (U_neq rfl rfl) rfl rfl ?_
  refine Rv rfl rfl rfl (U_pick_f rfl rfl) rfl rfl ?_
  refine Re rfl ?_
  refine thenQ_n ?_
  refine WcondP rfl rfl (fun h => absurd h (by decide)) (fun _ => ?_)
  refine W_skip rfl ?_
  refine thenQ_n ?_
  refine W_seq rfl ?_
  refine W_reg rfl ?_
  refine Rv rfl rfl rfl (U_load3 rfl rfl rfl rfl rfl) rfl rfl ?_
  refine Rv rfl rfl rfl (U_move rfl) rfl rfl ?_
  refine Rv rfl rfl rfl (U_move rfl) rfl rfl ?_
  refine Rv rfl rfl rfl (U_call rfl rfl (w20_p) rfl) rfl rfl ?_
  refine Rv rfl rfl rfl (U_move rfl) rfl rfl ?_
  refine Rv rfl rfl rfl (U_extract rfl rfl) rfl rfl ?_
  refine Rv rfl rfl rfl (U_extract rfl rfl) rfl rfl ?_
  refine Ra rfl rfl rfl (U_alloc) rfl rfl rfl ?_
  refine Rn rfl rfl rfl (U_storeAll rfl rfl rfl rfl rfl rfl) rfl ?_
  refine Rv rfl rfl rfl (U_assign rfl) rfl rfl ?_
  refine Re rfl ?_
  refine thenQ_n ?_
  refine WfrN 13 rfl rfl (T' := [(1, .rop [i64 goodS.lo, i64 goodS.hi, .ros (goodS.es.flatMap entC) goodS.es.length (some 3)] 0), (2, .rop [i64 badS.lo, i64 badS.hi, .ros (badS.es.flatMap entC) badS.es.length (some 4)] 0), (3, .rop [i64 13, i64 5] 0), (7, .rop [i64 8, i64 5] 0), (8, .rop [i64 9, i64 5] 0), (13, .rop [i64 136, i64 1] 0), (14, .rop [i64 416, i64 3] 0), (20, .rop [i64 2, i64 3] 0), (21, .rop [i64 1, i64 2] 0), (23, i64 1), (25, .ros ([2].map i64) ([2].length) none), (27, i64 2), (32, .rop [i64 104, i64 1, i64 26, i64 15] 0), (35, .rop [i64 9, i64 5] 0), (36, i64 0)]) (H' := []) ⟨⟨_, rfl, rfl⟩, ⟨_, rfl, rfl⟩, ⟨_, rfl, rfl⟩, ⟨_, rfl, rfl⟩, ⟨_, rfl, rfl⟩, ⟨_, rfl, rfl⟩, ⟨_, rfl, rfl⟩, ⟨_, rfl, rfl⟩, ⟨_, rfl, rfl⟩, ⟨_, rfl, rfl⟩, ⟨_, rfl, rfl⟩, ⟨_, rfl, rfl⟩, ⟨_, rfl, rfl⟩, ⟨_, rfl, rfl⟩, ⟨_, rfl, rfl⟩, trivial⟩ trivial ?_
  refine W_seq rfl ?_
  refine Wdraw rfl (by kernel_rfl) (by kernel_rfl) ?_
  refine Dv rfl rfl rfl (U_load2 rfl rfl rfl rfl) rfl rfl ?_
  refine Dv rfl rfl rfl (U_call rfl rfl (fracOf_p 13 5) rfl) rfl rfl ?_
  refine Dv rfl rfl rfl (U_eqlA (p := (13 : Int) = 13 ∧ (5 : Int) = 5) rfl rfl rfl rfl rfl rfl (by simp)) rfl rfl ?_
  refine Dv rfl rfl rfl (U_move rfl) rfl rfl ?_
  refine Dv rfl rfl rfl (U_load2 rfl rfl rfl rfl) rfl rfl ?_
  refine Dv rfl rfl rfl (U_call rfl rfl (fracOf_p 8 5) rfl) rfl rfl ?_
  refine Dv rfl rfl rfl (U_eqlA (p := (8 : Int) = 8 ∧ (5 : Int) = 5) rfl rfl rfl rfl rfl rfl (by simp)) rfl rfl ?_
  refine Dv rfl rfl rfl (U_pick_t rfl rfl) rfl rfl ?_
  refine Dv rfl rfl rfl (U_move rfl) rfl rfl ?_
  refine Dv rfl rfl rfl (U_load2 rfl rfl rfl rfl) rfl rfl ?_
  refine Dv rfl rfl rfl (U_call rfl rfl (fracOf_p 9 5) rfl) rfl rfl ?_
  refine Dv rfl rfl rfl (U_eqlA (p := (9 : Int) = 9 ∧ (5 : Int) = 5) rfl rfl rfl rfl rfl rfl (by simp)) rfl rfl ?_
  refine Dv rfl rfl rfl (U_pick_t rfl rfl) rfl rfl ?_
  refine Dv rfl rfl rfl (U_move rfl) rfl rfl ?_
  refine Dv rfl rfl rfl (U_load2 rfl rfl rfl rfl) rfl rfl ?_
  refine Dv rfl rfl rfl (U_call rfl rfl (fracOf_p 136 1) rfl) rfl rfl ?_
  refine Dv rfl rfl rfl (U_eqlA (p := (136 : Int) = 136 ∧ (1 : Int) = 1) rfl rfl rfl rfl rfl rfl (by simp)) rfl rfl ?_
  refine Dv rfl rfl rfl (U_pick_t rfl rfl) rfl rfl ?_
  refine Dv rfl rfl rfl (U_move rfl) rfl rfl ?_
  refine Dv rfl rfl rfl (U_load2 rfl rfl rfl rfl) rfl rfl ?_
  refine Dv rfl rfl rfl (U_call rfl rfl (fracOf_p 416 3) rfl) rfl rfl ?_
  refine Dv rfl rfl rfl (U_eqlA (p := (416 : Int) = 416 ∧ (3 : Int) = 3) rfl rfl rfl rfl rfl rfl (by simp)) rfl rfl ?_
  refine Dv rfl rfl rfl (U_pick_t rfl rfl) rfl rfl ?_
  refine Dv rfl rfl rfl (U_move rfl) rfl rfl ?_
  refine Dv rfl rfl rfl (U_load3 rfl rfl rfl rfl rfl) rfl rfl ?_
  refine Dv rfl rfl rfl (U_load2 rfl rfl rfl rfl) rfl rfl ?_
  refine Dv rfl rfl rfl (U_load2 rfl rfl rfl rfl) rfl rfl ?_
  refine Dv rfl rfl rfl (U_call rfl rfl (w13_p) rfl) rfl rfl ?_
  refine Dv rfl rfl rfl (U_eql rfl rfl) rfl rfl ?_
  refine Dv rfl rfl rfl (U_pick_t rfl rfl) rfl rfl ?_
  refine Dv rfl rfl rfl (U_move rfl) rfl rfl ?_
  refine Dv rfl rfl rfl (U_move rfl) rfl rfl ?_
  refine Dv rfl rfl rfl (U_eql rfl rfl) rfl rfl ?_
  refine Dv rfl rfl rfl (U_pick_t rfl rfl) rfl rfl ?_
  refine Dv rfl rfl rfl (U_move rfl) rfl rfl ?_
  refine Dv rfl rfl rfl (U_move rfl) rfl rfl ?_
  refine Dv rfl rfl rfl (U_buildSliceF (by rfl) (by decide) rfl rfl rfl) rfl rfl ?_
  refine Dv rfl rfl rfl (U_call rfl rfl (of_p [2] (some 1)) rfl) rfl rfl ?_
  refine Dv rfl rfl rfl (U_call rfl rfl (w21_p) rfl) rfl rfl ?_
  refine Dv rfl rfl rfl (U_pick_t rfl rfl) rfl rfl ?_
  refine Dv rfl rfl rfl (U_move rfl) rfl rfl ?_
  refine Dv rfl rfl rfl (U_move rfl) rfl rfl ?_
  refine Dv rfl rfl rfl (U_eql rfl rfl) rfl rfl ?_
  refine Dv rfl rfl rfl (U_pick_t rfl rfl) rfl rfl ?_
  refine Dv rfl rfl rfl (U_move rfl) rfl rfl ?_
  refine Dv rfl rfl rfl (U_move rfl) rfl rfl ?_
  refine Dv rfl rfl rfl (U_eql rfl rfl) rfl rfl ?_
  refine Dv rfl rfl rfl (U_pick_t rfl rfl) rfl rfl ?_
  refine Dv rfl rfl rfl (U_move rfl) rfl rfl ?_
  refine Dv rfl rfl rfl (U_load2 rfl rfl rfl rfl) rfl rfl ?_
  refine Dv rfl rfl rfl (U_load2 rfl rfl rfl rfl) rfl rfl ?_
  refine Dv rfl rfl rfl (U_eqlA (p := (9 : Int) = 9 ∧ (5 : Int) = 5) rfl rfl rfl rfl rfl rfl (by simp)) rfl rfl ?_
  refine Dv rfl rfl rfl (U_pick_t rfl rfl) rfl rfl ?_
  refine Dv rfl rfl rfl (U_move rfl) rfl rfl ?_
  refine Dv rfl rfl rfl (U_load3 rfl rfl rfl rfl rfl) rfl rfl ?_
  refine Dv rfl rfl rfl (U_load4 rfl rfl rfl rfl rfl rfl) rfl rfl ?_
  refine Dv rfl rfl rfl (U_call rfl rfl (w9_p) rfl) rfl rfl ?_
  refine Dv rfl rfl rfl (U_eql rfl rfl) rfl rfl ?_
  refine Dv rfl rfl rfl (U_pick_t rfl rfl) rfl rfl ?_
  refine Dv rfl rfl rfl (U_move rfl) rfl rfl ?_
  refine Dv rfl rfl rfl (U_load4 rfl rfl rfl rfl rfl rfl) rfl rfl ?_
  refine Dv rfl rfl rfl (U_call rfl rfl (w10_p) rfl) rfl rfl ?_
  refine Dv rfl rfl rfl (U_load2 rfl rfl rfl rfl) rfl rfl ?_
  refine Dv rfl rfl rfl (U_eqlA (p := (416 : Int) = 416 ∧ (3 : Int) = 3) rfl rfl rfl rfl rfl rfl (by simp)) rfl rfl ?_
  refine Dv rfl rfl rfl (U_pick_t rfl rfl) rfl rfl ?_
  refine Dv rfl rfl rfl (U_assign rfl) rfl rfl ?_
  refine Dr.nil rfl ?_
  refine thenQ_n ?_
  refine W_ret rfl ?_
  exact retL (rlT rfl rl0) (by first | rfl | (simp only [packA]; rfl; first | done | rfl)) rfl
end Go.Proofs.Ytapappdgdiaijaa
end

section
/- DriftStars. -/
namespace Go.Proofs.Ytapappdgdiaijaa
set_option maxRecDepth 20000
open Go.AE
theorem driftStars_p (s : Star) (c : Option Nat) (p v : Int × Int) : Pure Try.prog 3 [starA s c, motA p v] (.bool true) := by
  refine pure_of_body Try.func3 (c := body Try.f3) rfl (by simp [Try.ntmps3]) fun w0 Φ0 => ?_
  refine W_seq rfl ?_
  refine W_reg rfl ?_
  refine Rv rfl rfl rfl (U_boxF rfl rfl rfl) rfl rfl ?_
  refine Rv rfl rfl rfl (U_boxF rfl rfl rfl) rfl rfl ?_
  refine Rv rfl rfl rfl (U_assign rfl) rfl rfl ?_
  refine Re rfl ?_
  refine thenQ_n ?_
  refine W_seq rfl ?_
  refine W_seq rfl ?_
  refine W_reg rfl ?_
  refine Rv rfl rfl rfl (U_load3 rfl rfl rfl rfl rfl) rfl rfl ?_
  refine Rv rfl rfl rfl (U_call rfl rfl (great_p s c) rfl) rfl rfl ?_
  refine Re rfl ?_
  refine thenQ_n ?_
  refine WcondP rfl rfl (fun hc0 => ?_) (fun hc0 => ?_)
  · refine W_seq rfl ?_
    refine W_reg rfl ?_
    refine Rv rfl rfl rfl (U_call rfl rfl (works_p) rfl) rfl rfl ?_
    refine Rv rfl rfl rfl (U_assign rfl) rfl rfl ?_
    refine Re rfl ?_
    refine thenQ_n ?_
    refine W_ret rfl ?_
    refine thenQ_r ?_
    exact retL (rlT rfl rl0) rfl rfl
  · have hl : s.es.length ≤ 20 := by simpa using hc0
    refine W_skip rfl ?_
    refine thenQ_n ?_
    refine W_seq rfl ?_
    refine Wjoin ⟨[(4, .bool ((decide ((chkS s) = (chkS s))) && (decide ((chkM s p v) = (chkM s p v)))))], [], 0, []⟩ ?_ ?_
    · refine Wdraw rfl (by kernel_rfl) (by kernel_rfl) ?_
      refine Dv rfl rfl rfl (U_load3 rfl rfl rfl rfl rfl) rfl rfl ?_
      refine Dv rfl rfl rfl (U_call rfl rfl (chk_p s c (by omega)) rfl) rfl rfl ?_
      refine Dv rfl rfl rfl (U_load3 rfl rfl rfl rfl rfl) rfl rfl ?_
      refine Dv rfl rfl rfl (U_call rfl rfl (chkR_p s c (by omega)) rfl) rfl rfl ?_
      refine Dv rfl rfl rfl (U_eql rfl rfl) rfl rfl ?_
      refine Dv rfl rfl rfl (U_move rfl) rfl rfl ?_
      refine Dsplit (t := 13) rfl (fun hg1 => ?_) (fun hg1 => ?_)
      · rw [hg1]
        have hg1' : (chkS s) = (chkS s) := of_decide_eq_true hg1
        refine Dv rfl rfl rfl (U_load3 rfl rfl rfl rfl rfl) rfl rfl ?_
        refine Dv rfl rfl rfl (U_load4 rfl rfl rfl rfl rfl rfl) rfl rfl ?_
        refine Dv rfl rfl rfl (U_call rfl rfl (checkMotion_p s c (by omega) p v) rfl) rfl rfl ?_
        refine Dv rfl rfl rfl (U_load3 rfl rfl rfl rfl rfl) rfl rfl ?_
        refine Dv rfl rfl rfl (U_load4 rfl rfl rfl rfl rfl rfl) rfl rfl ?_
        refine Dv rfl rfl rfl (U_call rfl rfl (checkMotionR_p s c (by omega) p v) rfl) rfl rfl ?_
        refine Dv rfl rfl rfl (U_eql rfl rfl) rfl rfl ?_
        refine Dv rfl rfl rfl (U_pick_t rfl rfl) rfl rfl ?_
        refine Dv rfl rfl rfl (U_move rfl) rfl rfl ?_
        refine Dsplit (t := 22) rfl (fun hg2 => ?_) (fun hg2 => ?_)
        · rw [hg2]
          have hg2' : (chkM s p v) = (chkM s p v) := of_decide_eq_true hg2
          refine Dv rfl rfl rfl (U_call rfl rfl (works_p) rfl) rfl rfl ?_
          refine Dv rfl rfl rfl (U_pick_t rfl rfl) rfl rfl ?_
          refine Dv rfl rfl rfl (U_assign rfl) rfl rfl ?_
          refine Dr.nil rfl ?_
          exact joinTo id ⟨eD rfl rfl, trivial⟩ trivial rfl rfl rfl rfl (fun _ _ => rfl)
        · rw [hg2]
          have hg2' : ¬ ((chkM s p v) = (chkM s p v)) := of_decide_eq_false hg2
          refine Ds rfl rfl rfl rfl rfl ?_
          refine Dv rfl rfl rfl (U_pick_f rfl rfl) rfl rfl ?_
          refine Dv rfl rfl rfl (U_assign rfl) rfl rfl ?_
          refine Dr.nil rfl ?_
          exact joinTo id ⟨eD rfl rfl, trivial⟩ trivial rfl rfl rfl rfl (fun _ _ => rfl)
      · rw [hg1]
        have hg1' : ¬ ((chkS s) = (chkS s)) := of_decide_eq_false hg1
        refine Ds rfl rfl rfl rfl rfl ?_
        refine Ds rfl rfl rfl rfl rfl ?_
        refine Ds rfl rfl rfl rfl rfl ?_
        refine Ds rfl rfl rfl rfl rfl ?_
        refine Ds rfl rfl rfl rfl rfl ?_
        refine Ds rfl rfl rfl rfl rfl ?_
        refine Ds rfl rfl rfl rfl rfl ?_
        refine Dv rfl rfl rfl (U_pick_f rfl rfl) rfl rfl ?_
        refine Dv rfl rfl rfl (U_move rfl) rfl rfl ?_
        refine Ds rfl rfl rfl rfl rfl ?_
        refine Dv rfl rfl rfl (U_pick_f rfl rfl) rfl rfl ?_
        refine Dv rfl rfl rfl (U_assign rfl) rfl rfl ?_
        refine Dr.nil rfl ?_
        exact joinTo id ⟨eD rfl rfl, trivial⟩ trivial rfl rfl rfl rfl (fun _ _ => rfl)
    refine thenQ_n ?_
    refine W_ret rfl ?_
    exact retL (rlT rfl rl0) (by first | rfl | (simp only [packA]; simp; first | done | rfl)) rfl
end Go.Proofs.Ytapappdgdiaijaa
end

section
/- What the inputs of this seat's statements read as. -/
namespace Go.Proofs.Ytapappdgdiaijaa
open Go Go.AE Go.Proofs
/-- A number that fits 64 bits. -/
abbrev I64 (n : Int) : Prop := IntKind.i64.min ≤ n ∧ n ≤ IntKind.i64.max
theorem rd2 : Reads Try.prog 2 fun vs => ∃ n, I64 n ∧ vs = [i64 n] := Reads.int Try.underlying2
theorem rd3 : Reads Try.prog 3 fun vs => ∃ n, I64 n ∧ vs = [i64 n] := Reads.int Try.underlying3
theorem rd5 : Reads Try.prog 5 fun vs => ∃ n, (0 ≤ n ∧ n ≤ 255) ∧ vs = [.int .u8 n] := Reads.int Try.underlying5
theorem rd23 : Reads Try.prog 23 fun vs => ∃ a b, I64 a ∧ I64 b ∧ vs = [i64 a, i64 b] :=
  (Reads.struct Try.underlying23 (As := [_, _]) ⟨by kernel_rfl, rd2, by kernel_rfl, rd2, by kernel_rfl, rfl⟩).mono fun vs ⟨ls, h, e⟩ => by
    obtain ⟨_, _, rfl, ⟨a, ha, rfl⟩, _, _, rfl, ⟨b, hb, rfl⟩, rfl⟩ := h
    exact ⟨a, b, ha, hb, e⟩
theorem rd76 : Reads Try.prog 76 fun vs => ∃ e : Ent, (I64 e.y ∧ I64 e.lo ∧ I64 e.hi) ∧ vs = entC e :=
  (Reads.struct Try.underlying76 (As := [_, _]) ⟨by kernel_rfl, rd2, by kernel_rfl, rd23, by kernel_rfl, rfl⟩).mono fun vs ⟨ls, h, e⟩ => by
    obtain ⟨_, _, rfl, ⟨a, ha, rfl⟩, _, _, rfl, ⟨b, c, hb, hc, rfl⟩, rfl⟩ := h
    exact ⟨⟨a, b, c⟩, ⟨ha, hb, hc⟩, e⟩
theorem all_map {α : Type} {f : α → List AV} {Q : α → Prop} : ∀ {ls : List (List AV)}, (∀ l ∈ ls, ∃ x, Q x ∧ l = f x) → ∃ xs : List α, (∀ x ∈ xs, Q x) ∧ ls = xs.map f
  | [], _ => ⟨[], by simp, rfl⟩
  | l :: ls, h => by
    obtain ⟨x, hx, rfl⟩ := h l List.mem_cons_self
    obtain ⟨xs, h1, rfl⟩ := all_map fun l hl => h l (List.mem_cons_of_mem _ hl)
    exact ⟨x :: xs, by simpa using ⟨hx, h1⟩, rfl⟩
theorem rd24 : Reads Try.prog 24 fun vs => ∃ l : List Ent, ((∀ e ∈ l, I64 e.y ∧ I64 e.lo ∧ I64 e.hi) ∧ l.length ≤ maxLen) ∧ vs = [entsA l none] :=
  (Reads.slice Try.underlying24 (z := 3) (by kernel_rfl) (by decide) rd76).mono fun vs ⟨ls, h, hn, e⟩ => by
    obtain ⟨xs, h1, rfl⟩ := all_map h
    exact ⟨xs, ⟨h1, by simpa using hn⟩, by rw [e, ← List.flatMap_def, List.length_map]⟩
theorem flat_i64 (l : List Int) : (l.map fun n => [i64 n]).flatten = l.map i64 := by
  induction l with
  | nil => rfl
  | cons a l ih => simp [ih]
theorem rd56 : Reads Try.prog 56 fun vs => ∃ l : List Int, ((∀ e ∈ l, I64 e) ∧ l.length ≤ maxLen) ∧ vs = [intsA l none] :=
  (Reads.slice Try.underlying56 (z := 1) (by kernel_rfl) (by decide) rd3).mono fun vs ⟨ls, h, hn, e⟩ => by
    obtain ⟨xs, h1, rfl⟩ := all_map h
    exact ⟨xs, ⟨h1, by simpa using hn⟩, by rw [e, flat_i64, List.length_map]⟩
theorem rd69 : Reads Try.prog 69 fun vs => ∃ l : List Int, ((∀ e ∈ l, 0 ≤ e ∧ e ≤ 255) ∧ l.length ≤ maxLen) ∧ vs = [.ros (l.map (AV.int .u8)) l.length none] :=
  (Reads.slice Try.underlying69 (z := 1) (by kernel_rfl) (by decide) rd5).mono fun vs ⟨ls, h, hn, e⟩ => by
    obtain ⟨xs, h1, rfl⟩ := all_map h
    refine ⟨xs, ⟨h1, by simpa using hn⟩, ?_⟩
    rw [e, List.length_map]
    have : ∀ l : List Int, (l.map fun n => [AV.int .u8 n]).flatten = l.map (AV.int .u8) := fun l => by induction l with
      | nil => rfl
      | cons a l ih => simp [ih]
    rw [this]
theorem inp2 : ArgR Try.prog 2 fun a => ∃ n, I64 n ∧ a = i64 n := ArgR.int Try.underlying2
theorem inp3 : ArgR Try.prog 3 fun a => ∃ n, I64 n ∧ a = i64 n := ArgR.int Try.underlying3
theorem inp4 : ArgR Try.prog 4 fun a => ∃ b, a = .bool b := ArgR.bool Try.underlying4
theorem inp5 : ArgR Try.prog 5 fun a => ∃ n, (0 ≤ n ∧ n ≤ 255) ∧ a = .int .u8 n := ArgR.int Try.underlying5
theorem inp68 : ArgR Try.prog 68 fun a => ∃ n, (-32768 ≤ n ∧ n ≤ 32767) ∧ a = .int .i16 n := ArgR.int Try.underlying68
theorem inp83 : ArgR Try.prog 83 fun a => ∃ n, (-128 ≤ n ∧ n ≤ 127) ∧ a = .int .i8 n := ArgR.int Try.underlying83
theorem inp90 : ArgR Try.prog 90 fun a => ∃ n, (0 ≤ n ∧ n ≤ 65535) ∧ a = .int .u16 n := ArgR.int Try.underlying90
theorem inp56 : ArgR Try.prog 56 fun a => ∃ l : List Int, ((∀ e ∈ l, I64 e) ∧ l.length ≤ maxLen) ∧ a = intsA l none :=
  ArgR.slice Try.underlying56 (rd56.mono fun _ ⟨l, h, e⟩ => ⟨_, ⟨l, h, rfl⟩, e⟩)
theorem inp69 : ArgR Try.prog 69 fun a => ∃ l : List Int, ((∀ e ∈ l, 0 ≤ e ∧ e ≤ 255) ∧ l.length ≤ maxLen) ∧ a = .ros (l.map (AV.int .u8)) l.length none :=
  ArgR.slice Try.underlying69 (rd69.mono fun _ ⟨l, h, e⟩ => ⟨_, ⟨l, h, rfl⟩, e⟩)
theorem inp44 : ArgR Try.prog 44 fun a => ∃ p : Int × Int, (I64 p.1 ∧ I64 p.2) ∧ a = pairA p :=
  (ArgR.array Try.underlying44 (Reads.array Try.underlying44 (z := 1) (by kernel_rfl) (by kernel_rfl) rd3)).mono fun v ⟨vs, ⟨ls, h, hn, e⟩, e'⟩ => by
    match ls, hn with
    | [l1, l2], _ =>
      obtain ⟨a, ha, rfl⟩ := h l1 (by simp)
      obtain ⟨b, hb, rfl⟩ := h l2 (by simp)
      exact ⟨(a, b), ⟨ha, hb⟩, by rw [e', e]; rfl⟩
/-- A star whose numbers fit 64 bits. -/
def Fits (s : Star) : Prop := I64 s.lo ∧ I64 s.hi ∧ (∀ e ∈ s.es, I64 e.y ∧ I64 e.lo ∧ I64 e.hi) ∧ s.es.length ≤ maxLen
theorem inp26 : ArgR Try.prog 26 fun a => ∃ s : Star, Fits s ∧ a = starA s none :=
  (ArgR.struct Try.underlying26 (Reads.struct Try.underlying26 (As := [_, _]) ⟨by kernel_rfl, rd23, by kernel_rfl, rd24, by kernel_rfl, rfl⟩)).mono fun v ⟨vs, ⟨ls, h, e⟩, e'⟩ => by
    obtain ⟨_, _, rfl, ⟨a, b, ha, hb, rfl⟩, _, _, rfl, ⟨l, hl, rfl⟩, rfl⟩ := h
    exact ⟨⟨a, b, l⟩, ⟨ha, hb, hl⟩, by rw [e', e]; rfl⟩
theorem inp30 : ArgR Try.prog 30 fun a => ∃ p v : Int × Int, (I64 p.1 ∧ I64 p.2 ∧ I64 v.1 ∧ I64 v.2) ∧ a = motA p v :=
  (ArgR.struct Try.underlying30 (Reads.struct Try.underlying30 (As := [_, _]) ⟨by kernel_rfl,
    (Reads.struct Try.underlying28 (As := [_, _]) ⟨by kernel_rfl, rd2, by kernel_rfl, rd2, by kernel_rfl, rfl⟩), by kernel_rfl, (Reads.struct Try.underlying28 (As := [_, _]) ⟨by kernel_rfl, rd2, by kernel_rfl, rd2, by kernel_rfl, rfl⟩), by kernel_rfl, rfl⟩)).mono fun v ⟨vs, ⟨ls, h, e⟩, e'⟩ => by
    obtain ⟨_, _, rfl, ⟨_, ⟨_, _, rfl, ⟨a, ha, rfl⟩, _, _, rfl, ⟨b, hb, rfl⟩, rfl⟩, rfl⟩, _, _, rfl, ⟨_, ⟨_, _, rfl, ⟨c, hc, rfl⟩, _, _, rfl, ⟨d, hd, rfl⟩, rfl⟩, rfl⟩, rfl⟩ := h
    exact ⟨(a, b), (c, d), ⟨ha, hb, hc, hd⟩, by rw [e', e]; rfl⟩
end Go.Proofs.Ytapappdgdiaijaa
end

section
/- Contracts of the reference, second part: bounds, the ends of the rate. -/
namespace Go.Proofs.Ytapappdgdiaijaa
set_option maxRecDepth 20000
open Go.AE
/-- The best bound of some pairs. -/
def bq (s : Star) (high : Bool) (l : List (Int × Int)) : Int × Int := bnd s high (bestQ s high l).1
theorem bq_nil (s : Star) (high : Bool) : bq s high [(-1, -1)] = bnd s high (-1, -1) := by
  unfold bq bestQ; simp only [List.foldl_cons, List.foldl_nil]; unfold stepB; split <;> rfl
theorem bq_snoc (s : Star) (high : Bool) (l : List (Int × Int)) (p : Int × Int) : bq s high (l ++ [p]) = if betterB high (bnd s high p) (bq s high l) = true then bnd s high p else bq s high l := by
  unfold bq
  rw [bestQ_app]
  simp only [List.foldl_cons, List.foldl_nil]
  unfold stepB
  split <;> rfl
theorem bq_end (s : Star) (high : Bool) : bq s high (pairsL s.es.length) = endQ s high := rfl
theorem bq_bd {s : Star} (hg : Good s) {high : Bool} {l : List (Int × Int)} (h : ∀ p ∈ l, isPairB s.es.length p = true) : Bd 20000 200 (bq s high l) := bnd_bd hg (best_pair h) high
theorem both_pair {n i k : Nat} (hk : k ≤ n) : ∀ p ∈ preL n i ++ partL i k, isPairB n p = true := fun p hp => (List.mem_append.1 hp).elim (pre_pair p) (part_pair hk p)
theorem snoc_part {n i k : Nat} (h : i + 1 ≤ k) : preL n i ++ partL i (k + 1) = (preL n i ++ partL i k) ++ [((i : Int), (k : Int))] := by rw [partL_succ h, List.append_assoc]
theorem bnd_lo (s : Star) : bnd s false (-1, -1) = (s.lo, 1) := by simp [bnd, frac_one]
theorem bnd_hi (s : Star) : bnd s true (-1, -1) = (s.hi, 1) := by simp [bnd, frac_one]
theorem rateOf_p (s : Star) (c : Option Nat) (hg : Good s) : Pure Try.prog 27 [starA s c] (.tup [ratA (endQ s false), ratA (endQ s true)]) := by
  have hlen := hg.len
  refine pure_of_body Try.func27 (c := body Try.f27) rfl (by simp [Try.ntmps27]) fun w0 Φ0 => ?_
  refine W_seq rfl ?_
  refine W_reg rfl ?_
  refine Rv rfl rfl rfl (U_boxF rfl rfl rfl) rfl rfl ?_
  refine Ra rfl rfl rfl (U_alloc) rfl rfl rfl ?_
  refine Ra rfl rfl rfl (U_alloc) rfl rfl rfl ?_
  refine Re rfl ?_
  refine thenQ_n ?_
  refine W_seq rfl ?_
  refine Wdraw rfl (by kernel_rfl) (by kernel_rfl) ?_
  refine Dv rfl rfl rfl (U_fieldAddrR rfl) rfl rfl ?_
  refine Dv rfl rfl rfl (U_fieldAddrR rfl) rfl rfl ?_
  refine Dv rfl rfl rfl (U_load1 rfl rfl rfl) rfl rfl ?_
  refine Dv rfl rfl rfl (U_call rfl rfl (whole_p s.lo) rfl) rfl rfl ?_
  refine Dv rfl rfl rfl (U_fieldAddrR rfl) rfl rfl ?_
  refine Dv rfl rfl rfl (U_fieldAddrR rfl) rfl rfl ?_
  refine Dv rfl rfl rfl (U_load1 rfl rfl rfl) rfl rfl ?_
  refine Dv rfl rfl rfl (U_call rfl rfl (whole_p s.hi) rfl) rfl rfl ?_
  refine Da rfl rfl rfl (U_alloc) rfl rfl rfl rfl ?_
  refine Da rfl rfl rfl (U_alloc) rfl rfl rfl rfl ?_
  refine Dn_ rfl rfl rfl (U_storeAll rfl rfl rfl rfl rfl rfl) rfl rfl ?_
  refine Dn_ rfl rfl rfl (U_storeAll rfl rfl rfl rfl rfl rfl) rfl rfl ?_
  refine Dr.nil rfl ?_
  refine thenQ_n ?_
  refine W_seq rfl ?_
  refine W_seq rfl ?_
  refine W_reg rfl ?_
  refine Rv rfl rfl rfl (U_assign rfl) rfl rfl ?_
  refine Re rfl ?_
  refine thenQ_n ?_
  refine W_block rfl ?_
  refine LoopTo (T' := [(1, .rop [i64 s.lo, i64 s.hi, .ros (s.es.flatMap entC) s.es.length c] 0), (2, .ptr 0 0), (3, .ptr 1 0), (4, .ptr 2 0), (5, .ptr 3 0), (6, i64 ((0 : Nat) : Int))]) (H' := [(0, some (.cells [i64 0, i64 0] 28)), (1, some (.cells [i64 0, i64 0] 28)), (2, some (.cells [i64 (s.lo, 1).1, i64 (s.lo, 1).2] 28)), (3, some (.cells [i64 (s.hi, 1).1, i64 (s.hi, 1).2] 28))]) (n := 4) rfl (fun mz_ qz_ => ∃ (i : Nat) (lo : Int × Int) (hi : Int × Int), i ≤ s.es.length ∧ lo = bq s false (preL s.es.length i) ∧ hi = bq s true (preL s.es.length i) ∧ mz_ = s.es.length - i ∧ qz_ = ⟨[(1, .rop [i64 s.lo, i64 s.hi, .ros (s.es.flatMap entC) s.es.length c] 0), (2, .ptr 0 0), (3, .ptr 1 0), (4, .ptr 2 0), (5, .ptr 3 0), (6, i64 ((i : Nat) : Int))], [(0, some (.cells [i64 0, i64 0] 28)), (1, some (.cells [i64 0, i64 0] 28)), (2, some (.cells [i64 lo.1, i64 lo.2] 28)), (3, some (.cells [i64 hi.1, i64 hi.2] 28))], 4, []⟩) ⟨0, (s.lo, 1), (s.hi, 1), (by omega), (by rw [show preL s.es.length 0 = [(-1, -1)] by simp [preL], bq_nil, bnd_lo]), (by rw [show preL s.es.length 0 = [(-1, -1)] by simp [preL], bq_nil, bnd_hi]), rfl, rfl⟩ id ⟨eD rfl rfl, e_ rfl rfl, e_ rfl rfl, e_ rfl rfl, e_ rfl rfl, eD rfl rfl, trivial⟩ ⟨rD rfl rfl rfl, rD rfl rfl rfl, rD rfl rfl rfl, rD rfl rfl rfl, trivial⟩ rfl rfl rfl rfl (fun _ _ => rfl) ?_
  rintro _ _ ⟨i, lo, hi, hi0_0, hi0_1, hi0_2, rfl, rfl⟩
  refine W_seq rfl ?_
  refine W_seq rfl ?_
  refine W_reg rfl ?_
  refine Rv rfl rfl rfl (U_move rfl) rfl rfl ?_
  refine Rv rfl rfl rfl (U_fieldAddrR rfl) rfl rfl ?_
  refine Rv rfl rfl rfl (U_load1 rfl rfl rfl) rfl rfl ?_
  refine Rv rfl rfl rfl (U_lenOf rfl len_ros) rfl rfl ?_
  refine Rv rfl rfl rfl (U_lss rfl rfl) rfl rfl ?_
  refine Re rfl ?_
  refine thenQ_n ?_
  refine WcondP rfl rfl (fun hc0 => ?_) (fun hc0 => ?_)
  · have hci : i < s.es.length := by omega
    refine W_skip rfl ?_
    refine thenQ_n ?_
    refine W_seq rfl ?_
    refine W_block rfl ?_
    refine W_seq rfl ?_
    refine W_reg rfl ?_
    refine Rv rfl rfl rfl (U_move rfl) rfl rfl ?_
    refine Rv rfl rfl rfl (U_add rfl rfl (w64e (m := ((i + 1 : Nat) : Int)) (by omega) (by omega) (by omega))) rfl rfl ?_
    refine Rv rfl rfl rfl (U_assign rfl) rfl rfl ?_
    refine Re rfl ?_
    refine thenQ_n ?_
    refine W_block rfl ?_
    refine LoopTo (T' := [(1, .rop [i64 s.lo, i64 s.hi, .ros (s.es.flatMap entC) s.es.length c] 0), (2, .ptr 0 0), (3, .ptr 1 0), (4, .ptr 2 0), (5, .ptr 3 0), (6, i64 ((i : Nat) : Int)), (7, i64 (((i + 1) : Nat) : Int))]) (H' := [(0, some (.cells [i64 0, i64 0] 28)), (1, some (.cells [i64 0, i64 0] 28)), (2, some (.cells [i64 lo.1, i64 lo.2] 28)), (3, some (.cells [i64 hi.1, i64 hi.2] 28))]) (n := 4) rfl (fun mz_ qz_ => ∃ (j : Nat) (lo2 : Int × Int) (hi2 : Int × Int), j ≤ s.es.length ∧ i + 1 ≤ j ∧ lo2 = bq s false (preL s.es.length i ++ partL i j) ∧ hi2 = bq s true (preL s.es.length i ++ partL i j) ∧ mz_ = s.es.length - j ∧ qz_ = ⟨[(1, .rop [i64 s.lo, i64 s.hi, .ros (s.es.flatMap entC) s.es.length c] 0), (2, .ptr 0 0), (3, .ptr 1 0), (4, .ptr 2 0), (5, .ptr 3 0), (6, i64 ((i : Nat) : Int)), (7, i64 ((j : Nat) : Int))], [(0, some (.cells [i64 0, i64 0] 28)), (1, some (.cells [i64 0, i64 0] 28)), (2, some (.cells [i64 lo2.1, i64 lo2.2] 28)), (3, some (.cells [i64 hi2.1, i64 hi2.2] 28))], 4, []⟩) ⟨i + 1, lo, hi, (by omega), (Nat.le_refl _), (by simp [partL]; exact hi0_1), (by simp [partL]; exact hi0_2), rfl, rfl⟩ id ⟨eD rfl rfl, e_ rfl rfl, e_ rfl rfl, e_ rfl rfl, e_ rfl rfl, eD rfl rfl, eD rfl rfl, trivial⟩ ⟨rD rfl rfl rfl, rD rfl rfl rfl, rD rfl rfl rfl, rD rfl rfl rfl, trivial⟩ rfl rfl rfl rfl (fun _ _ => rfl) ?_
    rintro _ _ ⟨j, lo2, hi2, hi1_0, hi1_1, hi1_2, hi1_3, rfl, rfl⟩
    refine W_seq rfl ?_
    refine W_seq rfl ?_
    refine W_reg rfl ?_
    refine Rv rfl rfl rfl (U_move rfl) rfl rfl ?_
    refine Rv rfl rfl rfl (U_fieldAddrR rfl) rfl rfl ?_
    refine Rv rfl rfl rfl (U_load1 rfl rfl rfl) rfl rfl ?_
    refine Rv rfl rfl rfl (U_lenOf rfl len_ros) rfl rfl ?_
    refine Rv rfl rfl rfl (U_lss rfl rfl) rfl rfl ?_
    refine Re rfl ?_
    refine thenQ_n ?_
    refine WcondP rfl rfl (fun hc1 => ?_) (fun hc1 => ?_)
    · have hcj : j < s.es.length := by omega
      have hbl := bq_bd hg (high := false) (both_pair (i := i) hi1_0)
      have hbh := bq_bd hg (high := true) (both_pair (i := i) hi1_0)
      rw [← hi1_2] at hbl
      rw [← hi1_3] at hbh
      have hpp : isPairB s.es.length ((i : Int), (j : Int)) = true := by simp [isPairB]; omega
      have q1 := bd_prod hbl (bnd_bd hg hpp false) (by omega)
      have q2 := bd_prod (bnd_bd hg hpp false) hbl (by omega)
      have q3 := bd_prod hbh (bnd_bd hg hpp true) (by omega)
      have q4 := bd_prod (bnd_bd hg hpp true) hbh (by omega)
      refine W_skip rfl ?_
      refine thenQ_n ?_
      refine W_seq rfl ?_
      refine W_block rfl ?_
      refine W_seq rfl ?_
      refine Wdraw rfl (by kernel_rfl) (by kernel_rfl) ?_
      refine Dv rfl rfl rfl (U_load3 rfl rfl rfl rfl rfl) rfl rfl ?_
      refine Dv rfl rfl rfl (U_move rfl) rfl rfl ?_
      refine Dv rfl rfl rfl (U_move rfl) rfl rfl ?_
      refine Dv rfl rfl rfl (U_call rfl rfl (boundOfR_p s c hg false ((i : Nat) : Int) ((j : Nat) : Int) (by first | assumption | (simp [isPairB]; omega))) rfl) rfl rfl ?_
      refine Dv rfl rfl rfl (U_load3 rfl rfl rfl rfl rfl) rfl rfl ?_
      refine Dv rfl rfl rfl (U_move rfl) rfl rfl ?_
      refine Dv rfl rfl rfl (U_move rfl) rfl rfl ?_
      refine Dv rfl rfl rfl (U_call rfl rfl (boundOfR_p s c hg true ((i : Nat) : Int) ((j : Nat) : Int) (by first | assumption | (simp [isPairB]; omega))) rfl) rfl rfl ?_
      refine Da rfl rfl rfl (U_alloc) rfl rfl rfl rfl ?_
      refine Da rfl rfl rfl (U_alloc) rfl rfl rfl rfl ?_
      refine Dn_ rfl rfl rfl (U_storeAll rfl rfl rfl rfl rfl rfl) rfl rfl ?_
      refine Dn_ rfl rfl rfl (U_storeAll rfl rfl rfl rfl rfl rfl) rfl rfl ?_
      refine Dr.nil rfl ?_
      refine thenQ_n ?_
      refine WfrN 4 rfl rfl (T' := [(1, .rop [i64 s.lo, i64 s.hi, .ros (s.es.flatMap entC) s.es.length c] 0), (2, .ptr 0 0), (3, .ptr 1 0), (4, .ptr 2 0), (5, .ptr 3 0), (6, i64 ((i : Nat) : Int)), (7, i64 ((j : Nat) : Int)), (8, .rop [i64 ((bnd s false (((i : Nat) : Int), ((j : Nat) : Int))).1), i64 ((bnd s false (((i : Nat) : Int), ((j : Nat) : Int))).2)] 0), (9, .ptr 5 0)]) (H' := [(0, some (.cells [i64 0, i64 0] 28)), (1, some (.cells [i64 0, i64 0] 28)), (2, some (.cells [i64 lo2.1, i64 lo2.2] 28)), (3, some (.cells [i64 hi2.1, i64 hi2.2] 28)), (5, some (.cells [i64 ((bnd s true (((i : Nat) : Int), ((j : Nat) : Int))).1), i64 ((bnd s true (((i : Nat) : Int), ((j : Nat) : Int))).2)] 28))]) ⟨⟨_, rfl, rfl⟩, ⟨_, rfl, rfl⟩, ⟨_, rfl, rfl⟩, ⟨_, rfl, rfl⟩, ⟨_, rfl, rfl⟩, ⟨_, rfl, rfl⟩, ⟨_, rfl, rfl⟩, ⟨_, rfl, rfl⟩, ⟨_, rfl, rfl⟩, trivial⟩ ⟨⟨rfl, rF rfl rfl⟩, ⟨rfl, rF rfl rfl⟩, ⟨rfl, rF rfl rfl⟩, ⟨rfl, rF rfl rfl⟩, ⟨rfl, rF rfl rfl⟩, trivial⟩ ?_
      refine WfrN 5 rfl rfl (T' := [(1, .rop [i64 s.lo, i64 s.hi, .ros (s.es.flatMap entC) s.es.length c] 0), (2, .ptr 0 0), (3, .ptr 1 0), (4, .ptr 2 0), (5, .ptr 3 0), (6, i64 ((i : Nat) : Int)), (7, i64 ((j : Nat) : Int)), (8, .rop [i64 ((bnd s false (((i : Nat) : Int), ((j : Nat) : Int))).1), i64 ((bnd s false (((i : Nat) : Int), ((j : Nat) : Int))).2)] 0), (9, .rop [i64 ((bnd s true (((i : Nat) : Int), ((j : Nat) : Int))).1), i64 ((bnd s true (((i : Nat) : Int), ((j : Nat) : Int))).2)] 0)]) (H' := [(0, some (.cells [i64 0, i64 0] 28)), (1, some (.cells [i64 0, i64 0] 28)), (2, some (.cells [i64 lo2.1, i64 lo2.2] 28)), (3, some (.cells [i64 hi2.1, i64 hi2.2] 28))]) ⟨⟨_, rfl, rfl⟩, ⟨_, rfl, rfl⟩, ⟨_, rfl, rfl⟩, ⟨_, rfl, rfl⟩, ⟨_, rfl, rfl⟩, ⟨_, rfl, rfl⟩, ⟨_, rfl, rfl⟩, ⟨_, rfl, rfl⟩, ⟨_, rfl, rfl⟩, trivial⟩ ⟨⟨rfl, rF rfl rfl⟩, ⟨rfl, rF rfl rfl⟩, ⟨rfl, rF rfl rfl⟩, ⟨rfl, rF rfl rfl⟩, trivial⟩ ?_
      refine W_seq rfl ?_
      refine W_seq rfl ?_
      refine W_reg rfl ?_
      refine Rv rfl rfl rfl (U_load2 rfl rfl rfl rfl) rfl rfl ?_
      refine Rv rfl rfl rfl (U_load2 rfl rfl rfl rfl) rfl rfl ?_
      refine Rv rfl rfl rfl (U_call rfl rfl (lessR_p lo2 (bnd s false (((i : Nat) : Int), ((j : Nat) : Int))) (by omega) (by omega)) rfl) rfl rfl ?_
      refine Re rfl ?_
      refine thenQ_n ?_
      refine Wjoin ⟨[(1, .rop [i64 s.lo, i64 s.hi, .ros (s.es.flatMap entC) s.es.length c] 0), (2, .ptr 0 0), (3, .ptr 1 0), (4, .ptr 2 0), (5, .ptr 3 0), (6, i64 ((i : Nat) : Int)), (7, i64 ((j : Nat) : Int)), (9, .rop [i64 ((bnd s true (((i : Nat) : Int), ((j : Nat) : Int))).1), i64 ((bnd s true (((i : Nat) : Int), ((j : Nat) : Int))).2)] 0)], [(0, some (.cells [i64 0, i64 0] 28)), (1, some (.cells [i64 0, i64 0] 28)), (2, some (.cells [i64 ((if (lessQ lo2 (bnd s false (((i : Nat) : Int), ((j : Nat) : Int)))) = true then (bnd s false (((i : Nat) : Int), ((j : Nat) : Int))) else lo2).1), i64 ((if (lessQ lo2 (bnd s false (((i : Nat) : Int), ((j : Nat) : Int)))) = true then (bnd s false (((i : Nat) : Int), ((j : Nat) : Int))) else lo2).2)] 28)), (3, some (.cells [i64 hi2.1, i64 hi2.2] 28))], 4, []⟩ ?_ ?_
      · refine Wcond rfl rfl (fun hc2 => ?_) (fun hc2 => ?_)
        · refine W_reg rfl ?_
          refine Rv rfl rfl rfl (U_load2 rfl rfl rfl rfl) rfl rfl ?_
          refine Rn rfl rfl rfl (U_storeAll rfl rfl rfl rfl rfl rfl) rfl ?_
          refine Re rfl ?_
          exact joinTo id ⟨eD rfl rfl, e_ rfl rfl, e_ rfl rfl, e_ rfl rfl, e_ rfl rfl, eD rfl rfl, eD rfl rfl, eD rfl rfl, trivial⟩ ⟨rD rfl rfl rfl, rD rfl rfl rfl, rD rfl (by first | rfl | (rw [if_pos hc2]; rfl) | (rw [if_neg hc2]; rfl) | (rw [if_neg (Bool.eq_false_iff.1 hc2)]; rfl)) rfl, rD rfl rfl rfl, trivial⟩ rfl rfl rfl rfl (fun _ _ => rfl)
        · have hc2' := Bool.eq_false_iff.1 hc2
          refine W_skip rfl ?_
          exact joinTo id ⟨eD rfl rfl, e_ rfl rfl, e_ rfl rfl, e_ rfl rfl, e_ rfl rfl, eD rfl rfl, eD rfl rfl, eD rfl rfl, trivial⟩ ⟨rD rfl rfl rfl, rD rfl rfl rfl, rD rfl (by first | rfl | (rw [if_pos hc2]; rfl) | (rw [if_neg hc2]; rfl) | (rw [if_neg (Bool.eq_false_iff.1 hc2)]; rfl)) rfl, rD rfl rfl rfl, trivial⟩ rfl rfl rfl rfl (fun _ _ => rfl)
      refine thenQ_n ?_
      refine W_seq rfl ?_
      refine W_reg rfl ?_
      refine Rv rfl rfl rfl (U_load2 rfl rfl rfl rfl) rfl rfl ?_
      refine Rv rfl rfl rfl (U_load2 rfl rfl rfl rfl) rfl rfl ?_
      refine Rv rfl rfl rfl (U_call rfl rfl (lessR_p (bnd s true (((i : Nat) : Int), ((j : Nat) : Int))) hi2 (by omega) (by omega)) rfl) rfl rfl ?_
      refine Re rfl ?_
      refine thenQ_n ?_
      refine Wjoin ⟨[(1, .rop [i64 s.lo, i64 s.hi, .ros (s.es.flatMap entC) s.es.length c] 0), (2, .ptr 0 0), (3, .ptr 1 0), (4, .ptr 2 0), (5, .ptr 3 0), (6, i64 ((i : Nat) : Int)), (7, i64 ((j : Nat) : Int))], [(0, some (.cells [i64 0, i64 0] 28)), (1, some (.cells [i64 0, i64 0] 28)), (2, some (.cells [i64 ((if (lessQ lo2 (bnd s false (((i : Nat) : Int), ((j : Nat) : Int)))) = true then (bnd s false (((i : Nat) : Int), ((j : Nat) : Int))) else lo2).1), i64 ((if (lessQ lo2 (bnd s false (((i : Nat) : Int), ((j : Nat) : Int)))) = true then (bnd s false (((i : Nat) : Int), ((j : Nat) : Int))) else lo2).2)] 28)), (3, some (.cells [i64 ((if (lessQ (bnd s true (((i : Nat) : Int), ((j : Nat) : Int))) hi2) = true then (bnd s true (((i : Nat) : Int), ((j : Nat) : Int))) else hi2).1), i64 ((if (lessQ (bnd s true (((i : Nat) : Int), ((j : Nat) : Int))) hi2) = true then (bnd s true (((i : Nat) : Int), ((j : Nat) : Int))) else hi2).2)] 28))], 4, []⟩ ?_ ?_
      · refine Wcond rfl rfl (fun hc3 => ?_) (fun hc3 => ?_)
        · refine W_reg rfl ?_
          refine Rv rfl rfl rfl (U_load2 rfl rfl rfl rfl) rfl rfl ?_
          refine Rn rfl rfl rfl (U_storeAll rfl rfl rfl rfl rfl rfl) rfl ?_
          refine Re rfl ?_
          exact joinTo id ⟨eD rfl rfl, e_ rfl rfl, e_ rfl rfl, e_ rfl rfl, e_ rfl rfl, eD rfl rfl, eD rfl rfl, trivial⟩ ⟨rD rfl rfl rfl, rD rfl rfl rfl, rD rfl (by first | rfl | (rw [if_pos hc2]; rfl) | (rw [if_neg hc2]; rfl) | (rw [if_neg (Bool.eq_false_iff.1 hc2)]; rfl)) rfl, rD rfl (by first | rfl | (rw [if_pos hc3]; rfl) | (rw [if_neg hc3]; rfl) | (rw [if_neg (Bool.eq_false_iff.1 hc3)]; rfl)) rfl, trivial⟩ rfl rfl rfl rfl (fun _ _ => rfl)
        · have hc3' := Bool.eq_false_iff.1 hc3
          refine W_skip rfl ?_
          exact joinTo id ⟨eD rfl rfl, e_ rfl rfl, e_ rfl rfl, e_ rfl rfl, e_ rfl rfl, eD rfl rfl, eD rfl rfl, trivial⟩ ⟨rD rfl rfl rfl, rD rfl rfl rfl, rD rfl (by first | rfl | (rw [if_pos hc2]; rfl) | (rw [if_neg hc2]; rfl) | (rw [if_neg (Bool.eq_false_iff.1 hc2)]; rfl)) rfl, rD rfl (by first | rfl | (rw [if_pos hc3]; rfl) | (rw [if_neg hc3]; rfl) | (rw [if_neg (Bool.eq_false_iff.1 hc3)]; rfl)) rfl, trivial⟩ rfl rfl rfl rfl (fun _ _ => rfl)
      refine blkQ_n ?_
      refine thenQ_n ?_
      refine W_reg rfl ?_
      refine Rv rfl rfl rfl (U_move rfl) rfl rfl ?_
      refine Rv rfl rfl rfl (U_add rfl rfl (w64e (m := ((j + 1 : Nat) : Int)) (by omega) (by omega) (by omega))) rfl rfl ?_
      refine Rv rfl rfl rfl (U_assign rfl) rfl rfl ?_
      refine Re rfl ?_
      refine thenQ_n ?_
      exact againTo (T' := [(1, .rop [i64 s.lo, i64 s.hi, .ros (s.es.flatMap entC) s.es.length c] 0), (2, .ptr 0 0), (3, .ptr 1 0), (4, .ptr 2 0), (5, .ptr 3 0), (6, i64 ((i : Nat) : Int)), (7, i64 (((j + 1) : Nat) : Int))]) (H' := [(0, some (.cells [i64 0, i64 0] 28)), (1, some (.cells [i64 0, i64 0] 28)), (2, some (.cells [i64 (if (lessQ lo2 (bnd s false (((i : Nat) : Int), ((j : Nat) : Int)))) = true then (bnd s false (((i : Nat) : Int), ((j : Nat) : Int))) else lo2).1, i64 (if (lessQ lo2 (bnd s false (((i : Nat) : Int), ((j : Nat) : Int)))) = true then (bnd s false (((i : Nat) : Int), ((j : Nat) : Int))) else lo2).2] 28)), (3, some (.cells [i64 (if (lessQ (bnd s true (((i : Nat) : Int), ((j : Nat) : Int))) hi2) = true then (bnd s true (((i : Nat) : Int), ((j : Nat) : Int))) else hi2).1, i64 (if (lessQ (bnd s true (((i : Nat) : Int), ((j : Nat) : Int))) hi2) = true then (bnd s true (((i : Nat) : Int), ((j : Nat) : Int))) else hi2).2] 28))]) (n := 4) (s.es.length - (j + 1)) ⟨j + 1, if (lessQ lo2 (bnd s false (((i : Nat) : Int), ((j : Nat) : Int)))) = true then (bnd s false (((i : Nat) : Int), ((j : Nat) : Int))) else lo2, if (lessQ (bnd s true (((i : Nat) : Int), ((j : Nat) : Int))) hi2) = true then (bnd s true (((i : Nat) : Int), ((j : Nat) : Int))) else hi2, (by omega), (by omega), (by rw [snoc_part hi1_1, bq_snoc, ← hi1_2]; rfl), (by rw [snoc_part hi1_1, bq_snoc, ← hi1_3]; rfl), rfl, rfl⟩ (by omega) id ⟨eD rfl rfl, e_ rfl rfl, e_ rfl rfl, e_ rfl rfl, e_ rfl rfl, eD rfl rfl, eD rfl rfl, trivial⟩ ⟨rD rfl rfl rfl, rD rfl rfl rfl, rD rfl rfl rfl, rD rfl rfl rfl, trivial⟩ rfl rfl rfl rfl (fun _ _ => rfl)
    · obtain rfl : j = s.es.length := by omega
      refine W_exit rfl ?_
      refine thenQ_x ?_
      refine thenQ_x ?_
      refine blkQ_x rfl ?_
      refine blkQ_n ?_
      refine thenQ_n ?_
      refine W_reg rfl ?_
      refine Rv rfl rfl rfl (U_move rfl) rfl rfl ?_
      refine Rv rfl rfl rfl (U_add rfl rfl (w64e (m := ((i + 1 : Nat) : Int)) (by omega) (by omega) (by omega))) rfl rfl ?_
      refine Rv rfl rfl rfl (U_assign rfl) rfl rfl ?_
      refine Re rfl ?_
      refine thenQ_n ?_
      exact againTo (T' := [(1, .rop [i64 s.lo, i64 s.hi, .ros (s.es.flatMap entC) s.es.length c] 0), (2, .ptr 0 0), (3, .ptr 1 0), (4, .ptr 2 0), (5, .ptr 3 0), (6, i64 (((i + 1) : Nat) : Int))]) (H' := [(0, some (.cells [i64 0, i64 0] 28)), (1, some (.cells [i64 0, i64 0] 28)), (2, some (.cells [i64 lo2.1, i64 lo2.2] 28)), (3, some (.cells [i64 hi2.1, i64 hi2.2] 28))]) (n := 4) (s.es.length - (i + 1)) ⟨i + 1, lo2, hi2, (by omega), (by rw [preL_succ]; exact hi1_2), (by rw [preL_succ]; exact hi1_3), rfl, rfl⟩ (by omega) id ⟨eD rfl rfl, e_ rfl rfl, e_ rfl rfl, e_ rfl rfl, e_ rfl rfl, eD rfl rfl, trivial⟩ ⟨rD rfl rfl rfl, rD rfl rfl rfl, rD rfl rfl rfl, rD rfl rfl rfl, trivial⟩ rfl rfl rfl rfl (fun _ _ => rfl)
  · obtain rfl : i = s.es.length := by omega
    refine W_exit rfl ?_
    refine thenQ_x ?_
    refine thenQ_x ?_
    refine blkQ_x rfl ?_
    refine thenQ_n ?_
    refine W_seq rfl ?_
    refine WfrN 2 rfl rfl (T' := [(2, .ptr 0 0), (3, .ptr 1 0), (4, .rop [i64 lo.1, i64 lo.2] 0), (5, .ptr 3 0)]) (H' := [(0, some (.cells [i64 0, i64 0] 28)), (1, some (.cells [i64 0, i64 0] 28)), (3, some (.cells [i64 hi.1, i64 hi.2] 28))]) ⟨⟨_, rfl, rfl⟩, ⟨_, rfl, rfl⟩, ⟨_, rfl, rfl⟩, ⟨_, rfl, rfl⟩, trivial⟩ ⟨⟨rfl, rF rfl rfl⟩, ⟨rfl, rF rfl rfl⟩, ⟨rfl, rF rfl rfl⟩, trivial⟩ ?_
    refine WfrN 3 rfl rfl (T' := [(2, .ptr 0 0), (3, .ptr 1 0), (4, .rop [i64 lo.1, i64 lo.2] 0), (5, .rop [i64 hi.1, i64 hi.2] 0)]) (H' := [(0, some (.cells [i64 0, i64 0] 28)), (1, some (.cells [i64 0, i64 0] 28))]) ⟨⟨_, rfl, rfl⟩, ⟨_, rfl, rfl⟩, ⟨_, rfl, rfl⟩, ⟨_, rfl, rfl⟩, trivial⟩ ⟨⟨rfl, rF rfl rfl⟩, ⟨rfl, rF rfl rfl⟩, trivial⟩ ?_
    refine WdrawL [50, 51] rfl (by kernel_rfl) (by kernel_rfl) ?_
    refine Dv rfl rfl rfl (U_load2 rfl rfl rfl rfl) rfl rfl ?_
    refine Dv rfl rfl rfl (U_load2 rfl rfl rfl rfl) rfl rfl ?_
    refine Dn_ rfl rfl rfl (U_storeAll rfl rfl rfl rfl rfl rfl) rfl rfl ?_
    refine Dn_ rfl rfl rfl (U_storeAll rfl rfl rfl rfl rfl rfl) rfl rfl ?_
    refine Dr.nil rfl ?_
    refine thenQ_n ?_
    refine W_ret rfl ?_
    exact retL (rlA rfl rfl rfl (rlA rfl rfl rfl rl0)) (by first | rfl | (simp only [packA]; rw [← bq_end, ← bq_end]; simp only [show pairsL s.es.length = preL s.es.length s.es.length from rfl, ← hi0_1, ← hi0_2]; first | done | rfl)) rfl
theorem hasR_p (s : Star) (c : Option Nat) (hg : Good s) : Pure Try.prog 29 [starA s c] (.bool (hasB s)) := by
  have hlen := hg.len
  have q1 := bd_prod (bq_bd hg (high := true) (l := pairsL s.es.length) (pre_pair (n := s.es.length) (i := s.es.length))) (bq_bd hg (high := false) (l := pairsL s.es.length) (pre_pair (n := s.es.length) (i := s.es.length))) (by omega)
  have q2 := bd_prod (bq_bd hg (high := false) (l := pairsL s.es.length) (pre_pair (n := s.es.length) (i := s.es.length))) (bq_bd hg (high := true) (l := pairsL s.es.length) (pre_pair (n := s.es.length) (i := s.es.length))) (by omega)
  rw [bq_end, bq_end] at q1 q2
  refine pure_of_body Try.func29 (c := body Try.f29) rfl (by simp [Try.ntmps29]) fun w0 Φ0 => ?_
  refine W_seq rfl ?_
  refine W_reg rfl ?_
  refine Rv rfl rfl rfl (U_boxF rfl rfl rfl) rfl rfl ?_
  refine Rv rfl rfl rfl (U_assign rfl) rfl rfl ?_
  refine Re rfl ?_
  refine thenQ_n ?_
  refine W_seq rfl ?_
  refine W_reg rfl ?_
  refine Rv rfl rfl rfl (U_load3 rfl rfl rfl rfl rfl) rfl rfl ?_
  refine Rv rfl rfl rfl (U_call rfl rfl (rateOf_p s c hg) rfl) rfl rfl ?_
  refine Rv rfl rfl rfl (U_move rfl) rfl rfl ?_
  refine Rv rfl rfl rfl (U_extract rfl rfl) rfl rfl ?_
  refine Rv rfl rfl rfl (U_extract rfl rfl) rfl rfl ?_
  refine Ra rfl rfl rfl (U_alloc) rfl rfl rfl ?_
  refine Ra rfl rfl rfl (U_alloc) rfl rfl rfl ?_
  refine Rn rfl rfl rfl (U_storeAll rfl rfl rfl rfl rfl rfl) rfl ?_
  refine Rn rfl rfl rfl (U_storeAll rfl rfl rfl rfl rfl rfl) rfl ?_
  refine Re rfl ?_
  refine thenQ_n ?_
  refine WfrN 0 rfl rfl (T' := [(3, .rop [i64 ((endQ s false).1), i64 ((endQ s false).2)] 0), (4, .ptr 1 0)]) (H' := [(1, some (.cells [i64 ((endQ s true).1), i64 ((endQ s true).2)] 28))]) ⟨⟨_, rfl, rfl⟩, ⟨_, rfl, rfl⟩, trivial⟩ ⟨⟨rfl, rF rfl rfl⟩, trivial⟩ ?_
  refine WfrN 1 rfl rfl (T' := [(3, .rop [i64 ((endQ s false).1), i64 ((endQ s false).2)] 0), (4, .rop [i64 ((endQ s true).1), i64 ((endQ s true).2)] 0)]) (H' := []) ⟨⟨_, rfl, rfl⟩, ⟨_, rfl, rfl⟩, trivial⟩ trivial ?_
  refine W_seq rfl ?_
  refine W_reg rfl ?_
  refine Rv rfl rfl rfl (U_load2 rfl rfl rfl rfl) rfl rfl ?_
  refine Rv rfl rfl rfl (U_load2 rfl rfl rfl rfl) rfl rfl ?_
  refine Rv rfl rfl rfl (U_call rfl rfl (lessR_p (endQ s true) (endQ s false) (by omega) (by omega)) rfl) rfl rfl ?_
  refine Rv rfl rfl rfl (U_not rfl) rfl rfl ?_
  refine Rv rfl rfl rfl (U_assign rfl) rfl rfl ?_
  refine Re rfl ?_
  refine thenQ_n ?_
  refine W_ret rfl ?_
  exact retL (rlT rfl rl0) (by first | rfl | (simp only [packA]; rfl; first | done | rfl)) rfl
theorem starErrorR_p (s : Star) (c : Option Nat) (hl : s.es.length ≤ 1000) : Pure Try.prog 26 [starA s c] (i64 (movS s)) := by
  refine pure_of_body Try.func26 (c := body Try.f26) rfl (by simp [Try.ntmps26]) fun w0 Φ0 => ?_
  refine W_seq rfl ?_
  refine W_reg rfl ?_
  refine Rv rfl rfl rfl (U_boxF rfl rfl rfl) rfl rfl ?_
  refine Rv rfl rfl rfl (U_assign rfl) rfl rfl ?_
  refine Re rfl ?_
  refine thenQ_n ?_
  refine W_seq rfl ?_
  refine W_seq rfl ?_
  refine W_reg rfl ?_
  refine Rv rfl rfl rfl (U_load3 rfl rfl rfl rfl rfl) rfl rfl ?_
  refine Rv rfl rfl rfl (U_call rfl rfl (chkR_p s c (by omega)) rfl) rfl rfl ?_
  refine Rv rfl rfl rfl (U_neq rfl rfl) rfl rfl ?_
  refine Re rfl ?_
  refine thenQ_n ?_
  refine WcondP rfl rfl (fun h0 => ?_) (fun h0 => ?_)
  · have hk : movS s = chkS s := by rw [movS, if_neg h0]
    refine W_seq rfl ?_
    refine W_reg rfl ?_
    refine Rv rfl rfl rfl (U_load3 rfl rfl rfl rfl rfl) rfl rfl ?_
    refine Rv rfl rfl rfl (U_call rfl rfl (chkR_p s c (by omega)) rfl) rfl rfl ?_
    refine Rv rfl rfl rfl (U_assign rfl) rfl rfl ?_
    refine Re rfl ?_
    refine thenQ_n ?_
    refine W_ret rfl ?_
    refine thenQ_r ?_
    exact retL (rlT rfl rl0) (by first | rfl | (simp only [packA]; rw [hk]; first | done | rfl)) rfl
  · rw [Decidable.not_not] at h0
    have hg := good_of h0
    refine W_skip rfl ?_
    refine thenQ_n ?_
    refine W_seq rfl ?_
    refine W_seq rfl ?_
    refine W_reg rfl ?_
    refine Rv rfl rfl rfl (U_load3 rfl rfl rfl rfl rfl) rfl rfl ?_
    refine Rv rfl rfl rfl (U_call rfl rfl (hasR_p s c hg) rfl) rfl rfl ?_
    refine Rv rfl rfl rfl (U_not rfl) rfl rfl ?_
    refine Re rfl ?_
    refine thenQ_n ?_
    refine Wcond rfl rfl (fun hc1 => ?_) (fun hc1 => ?_)
    · have hk : movS s = 17 := by rw [movS, if_pos h0, if_neg (by simpa using hc1)]
      refine W_seq rfl ?_
      refine W_reg rfl ?_
      refine Rv rfl rfl rfl (U_assign rfl) rfl rfl ?_
      refine Re rfl ?_
      refine thenQ_n ?_
      refine W_ret rfl ?_
      refine thenQ_r ?_
      exact retL (rlT rfl rl0) (by first | rfl | (simp only [packA]; rw [hk]; first | done | rfl)) rfl
    · have hc1' := Bool.eq_false_iff.1 hc1
      have hk : movS s = 0 := by rw [movS, if_pos h0, if_pos (by simpa using hc1)]
      refine W_skip rfl ?_
      refine thenQ_n ?_
      refine W_seq rfl ?_
      refine W_reg rfl ?_
      refine Rv rfl rfl rfl (U_assign rfl) rfl rfl ?_
      refine Re rfl ?_
      refine thenQ_n ?_
      refine W_ret rfl ?_
      exact retL (rlT rfl rl0) (by first | rfl | (simp only [packA]; rw [hk]; first | done | rfl)) rfl
end Go.Proofs.Ytapappdgdiaijaa
end

section
/- DriftBounds, DriftClashes. -/
namespace Go.Proofs.Ytapappdgdiaijaa
set_option maxRecDepth 20000
open Go.AE
theorem bestR_p {s : Star} (hk : chkS s = 0) (c : Option Nat) (hl : s.es.length ≤ 20) (high : Bool) : Pure Try.prog 24 [starA s c, .bool high, i64 (bestP s high).1, i64 (bestP s high).2] (.tup [ratA (endQ s high), i64 0]) := by
  have hcb : cbS s (bestP s high) = 0 := by rw [cbS, if_pos hk, if_pos (bestP_pair s high)]
  have h := checkBoundR_p s c (by omega) high (bestP s high).1 (bestP s high).2
  rw [if_pos hcb] at h
  have e : cbS s ((bestP s high).1, (bestP s high).2) = 0 := hcb
  rw [e] at h
  exact h
theorem driftBounds_true (s : Star) (c : Option Nat) (a b : Int) : Pure Try.prog 4 [starA s c, .bool true, i64 a, i64 b] (.bool true) := by
  refine pure_of_body Try.func4 (c := body Try.f4) rfl (by simp [Try.ntmps4]) fun w0 Φ0 => ?_
  refine W_seq rfl ?_
  refine W_reg rfl ?_
  refine Rv rfl rfl rfl (U_boxF rfl rfl rfl) rfl rfl ?_
  refine Rv rfl rfl rfl (U_assign rfl) rfl rfl ?_
  refine Re rfl ?_
  refine thenQ_n ?_
  refine W_seq rfl ?_
  refine W_seq rfl ?_
  refine W_reg rfl ?_
  refine Rv rfl rfl rfl (U_load3 rfl rfl rfl rfl rfl) rfl rfl ?_
  refine Rv rfl rfl rfl (U_call rfl rfl (great_p s c) rfl) rfl rfl ?_
  refine Re rfl ?_
  refine thenQ_n ?_
  refine WcondP rfl rfl (fun hc0 => ?_) (fun hc0 => ?_)
  · refine W_seq rfl ?_
    refine W_reg rfl ?_
    refine Rv rfl rfl rfl (U_call rfl rfl (works_p) rfl) rfl rfl ?_
    refine Rv rfl rfl rfl (U_assign rfl) rfl rfl ?_
    refine Re rfl ?_
    refine thenQ_n ?_
    refine W_ret rfl ?_
    refine thenQ_r ?_
    exact retL (rlT rfl rl0) rfl rfl
  · have hl : s.es.length ≤ 20 := by simpa using hc0
    refine W_skip rfl ?_
    refine thenQ_n ?_
    refine W_seq rfl ?_
    refine W_reg rfl ?_
    refine Rv rfl rfl rfl (U_load3 rfl rfl rfl rfl rfl) rfl rfl ?_
    refine Rv rfl rfl rfl (U_move rfl) rfl rfl ?_
    refine Rv rfl rfl rfl (U_move rfl) rfl rfl ?_
    refine Rv rfl rfl rfl (U_move rfl) rfl rfl ?_
    refine Rv rfl rfl rfl (U_call rfl rfl (checkBound_p s c (by omega) true a b) rfl) rfl rfl ?_
    refine Rv rfl rfl rfl (U_move rfl) rfl rfl ?_
    refine Rv rfl rfl rfl (U_extract rfl rfl) rfl rfl ?_
    refine Rv rfl rfl rfl (U_extract rfl rfl) rfl rfl ?_
    refine Ra rfl rfl rfl (U_alloc) rfl rfl rfl ?_
    refine Rn rfl rfl rfl (U_storeAll rfl rfl rfl rfl rfl rfl) rfl ?_
    refine Rv rfl rfl rfl (U_assign rfl) rfl rfl ?_
    refine Re rfl ?_
    refine thenQ_n ?_
    refine WfrN 0 rfl rfl (T' := [(1, .bool true), (2, i64 a), (3, i64 b), (4, .rop [i64 s.lo, i64 s.hi, .ros (s.es.flatMap entC) s.es.length c] 0), (9, .rop [i64 ((if cbS s (a, b) = 0 then bnd s true (a, b) else (0, 0)).1), i64 ((if cbS s (a, b) = 0 then bnd s true (a, b) else (0, 0)).2)] 0), (10, i64 (cbS s (a, b)))]) (H' := []) ⟨⟨_, rfl, rfl⟩, ⟨_, rfl, rfl⟩, ⟨_, rfl, rfl⟩, ⟨_, rfl, rfl⟩, ⟨_, rfl, rfl⟩, ⟨_, rfl, rfl⟩, trivial⟩ trivial ?_
    refine W_seq rfl ?_
    refine W_reg rfl ?_
    refine Rv rfl rfl rfl (U_load3 rfl rfl rfl rfl rfl) rfl rfl ?_
    refine Rv rfl rfl rfl (U_move rfl) rfl rfl ?_
    refine Rv rfl rfl rfl (U_move rfl) rfl rfl ?_
    refine Rv rfl rfl rfl (U_move rfl) rfl rfl ?_
    refine Rv rfl rfl rfl (U_call rfl rfl (checkBoundR_p s c (by omega) true a b) rfl) rfl rfl ?_
    refine Rv rfl rfl rfl (U_move rfl) rfl rfl ?_
    refine Rv rfl rfl rfl (U_extract rfl rfl) rfl rfl ?_
    refine Rv rfl rfl rfl (U_extract rfl rfl) rfl rfl ?_
    refine Ra rfl rfl rfl (U_alloc) rfl rfl rfl ?_
    refine Rn rfl rfl rfl (U_storeAll rfl rfl rfl rfl rfl rfl) rfl ?_
    refine Rv rfl rfl rfl (U_assign rfl) rfl rfl ?_
    refine Re rfl ?_
    refine thenQ_n ?_
    refine WfrN 1 rfl rfl (T' := [(1, .bool true), (4, .rop [i64 s.lo, i64 s.hi, .ros (s.es.flatMap entC) s.es.length c] 0), (9, .rop [i64 ((if cbS s (a, b) = 0 then bnd s true (a, b) else (0, 0)).1), i64 ((if cbS s (a, b) = 0 then bnd s true (a, b) else (0, 0)).2)] 0), (10, i64 (cbS s (a, b))), (11, .rop [i64 ((if cbS s (a, b) = 0 then bnd s true (a, b) else (0, 0)).1), i64 ((if cbS s (a, b) = 0 then bnd s true (a, b) else (0, 0)).2)] 0), (12, i64 (cbS s (a, b)))]) (H' := []) ⟨⟨_, rfl, rfl⟩, ⟨_, rfl, rfl⟩, ⟨_, rfl, rfl⟩, ⟨_, rfl, rfl⟩, ⟨_, rfl, rfl⟩, ⟨_, rfl, rfl⟩, trivial⟩ trivial ?_
    refine W_seq rfl ?_
    refine W_reg rfl ?_
    refine Rv rfl rfl rfl (U_load3 rfl rfl rfl rfl rfl) rfl rfl ?_
    refine Rv rfl rfl rfl (U_move rfl) rfl rfl ?_
    refine Rv rfl rfl rfl (U_call rfl rfl (boundOf_p s c (by omega) true) rfl) rfl rfl ?_
    refine Rv rfl rfl rfl (U_move rfl) rfl rfl ?_
    refine Rv rfl rfl rfl (U_extract rfl rfl) rfl rfl ?_
    refine Rv rfl rfl rfl (U_extract rfl rfl) rfl rfl ?_
    refine Rv rfl rfl rfl (U_extract rfl rfl) rfl rfl ?_
    refine Rv rfl rfl rfl (U_assign rfl) rfl rfl ?_
    refine Rv rfl rfl rfl (U_assign rfl) rfl rfl ?_
    refine Rv rfl rfl rfl (U_assign rfl) rfl rfl ?_
    refine Re rfl ?_
    refine thenQ_n ?_
    refine W_seq rfl ?_
    refine W_reg rfl ?_
    refine Rv rfl rfl rfl (U_load3 rfl rfl rfl rfl rfl) rfl rfl ?_
    refine Rv rfl rfl rfl (U_call rfl rfl (starErrorR_p s c (by omega)) rfl) rfl rfl ?_
    refine Rv rfl rfl rfl (U_assign rfl) rfl rfl ?_
    refine Re rfl ?_
    refine thenQ_n ?_
    refine W_seq rfl ?_
    refine W_seq rfl ?_
    refine Wjoin ⟨[(1, .bool true), (4, .rop [i64 s.lo, i64 s.hi, .ros (s.es.flatMap entC) s.es.length c] 0), (13, i64 (if movS s = 0 then (bestP s true).1 else 0)), (14, i64 (if movS s = 0 then (bestP s true).2 else 0)), (16, i64 (movS s)), (61, .bool ((decide (¬ (((if cbS s (a, b) = 0 then bnd s true (a, b) else (0, 0)).1) = ((if cbS s (a, b) = 0 then bnd s true (a, b) else (0, 0)).1) ∧ ((if cbS s (a, b) = 0 then bnd s true (a, b) else (0, 0)).2) = ((if cbS s (a, b) = 0 then bnd s true (a, b) else (0, 0)).2)))) || ((decide ((cbS s (a, b)) ≠ (cbS s (a, b)))) || (decide ((movS s) ≠ (movS s))))))], [], 0, []⟩ ?_ ?_
    · refine W_reg rfl ?_
      refine Rv rfl rfl rfl (U_load2 rfl rfl rfl rfl) rfl rfl ?_
      refine Rv rfl rfl rfl (U_load2 rfl rfl rfl rfl) rfl rfl ?_
      refine Rv rfl rfl rfl (U_neqA (p := ((if cbS s (a, b) = 0 then bnd s true (a, b) else (0, 0)).1) = ((if cbS s (a, b) = 0 then bnd s true (a, b) else (0, 0)).1) ∧ ((if cbS s (a, b) = 0 then bnd s true (a, b) else (0, 0)).2) = ((if cbS s (a, b) = 0 then bnd s true (a, b) else (0, 0)).2)) rfl rfl rfl rfl rfl rfl (by simp)) rfl rfl ?_
      refine Rv rfl rfl rfl (U_move rfl) rfl rfl ?_
      refine Rsplit (t := 52) rfl (fun hg1 => ?_) (fun hg1 => ?_)
      · rw [hg1]
        have hg1' : ¬ (((if cbS s (a, b) = 0 then bnd s true (a, b) else (0, 0)).1) = ((if cbS s (a, b) = 0 then bnd s true (a, b) else (0, 0)).1) ∧ ((if cbS s (a, b) = 0 then bnd s true (a, b) else (0, 0)).2) = ((if cbS s (a, b) = 0 then bnd s true (a, b) else (0, 0)).2)) := of_decide_eq_true hg1
        refine Rs rfl rfl rfl rfl rfl ?_
        refine Rs rfl rfl rfl rfl rfl ?_
        refine Rs rfl rfl rfl rfl rfl ?_
        refine Rv rfl rfl rfl (U_pick_t rfl rfl) rfl rfl ?_
        refine Rv rfl rfl rfl (U_move rfl) rfl rfl ?_
        refine Rs rfl rfl rfl rfl rfl ?_
        refine Rs rfl rfl rfl rfl rfl ?_
        refine Rs rfl rfl rfl rfl rfl ?_
        refine Rv rfl rfl rfl (U_pick_t rfl rfl) rfl rfl ?_
        refine Re rfl ?_
        exact joinTo id ⟨eD rfl rfl, eD rfl rfl, eD rfl rfl, eD rfl rfl, eD rfl rfl, eD rfl rfl, trivial⟩ trivial rfl rfl rfl rfl (fun _ _ => rfl)
      · rw [hg1]
        have hg1' : ¬ (¬ (((if cbS s (a, b) = 0 then bnd s true (a, b) else (0, 0)).1) = ((if cbS s (a, b) = 0 then bnd s true (a, b) else (0, 0)).1) ∧ ((if cbS s (a, b) = 0 then bnd s true (a, b) else (0, 0)).2) = ((if cbS s (a, b) = 0 then bnd s true (a, b) else (0, 0)).2))) := of_decide_eq_false hg1
        refine Rv rfl rfl rfl (U_move rfl) rfl rfl ?_
        refine Rv rfl rfl rfl (U_move rfl) rfl rfl ?_
        refine Rv rfl rfl rfl (U_neq rfl rfl) rfl rfl ?_
        refine Rv rfl rfl rfl (U_pick_f rfl rfl) rfl rfl ?_
        refine Rv rfl rfl rfl (U_move rfl) rfl rfl ?_
        refine Rsplit (t := 57) rfl (fun hg2 => ?_) (fun hg2 => ?_)
        · rw [hg2]
          have hg2' : (cbS s (a, b)) ≠ (cbS s (a, b)) := of_decide_eq_true hg2
          refine Rs rfl rfl rfl rfl rfl ?_
          refine Rs rfl rfl rfl rfl rfl ?_
          refine Rs rfl rfl rfl rfl rfl ?_
          refine Rv rfl rfl rfl (U_pick_t rfl rfl) rfl rfl ?_
          refine Re rfl ?_
          exact joinTo id ⟨eD rfl rfl, eD rfl rfl, eD rfl rfl, eD rfl rfl, eD rfl rfl, eD rfl rfl, trivial⟩ trivial rfl rfl rfl rfl (fun _ _ => rfl)
        · rw [hg2]
          have hg2' : ¬ ((cbS s (a, b)) ≠ (cbS s (a, b))) := of_decide_eq_false hg2
          refine Rv rfl rfl rfl (U_move rfl) rfl rfl ?_
          refine Rv rfl rfl rfl (U_move rfl) rfl rfl ?_
          refine Rv rfl rfl rfl (U_neq rfl rfl) rfl rfl ?_
          refine Rv rfl rfl rfl (U_pick_f rfl rfl) rfl rfl ?_
          refine Re rfl ?_
          exact joinTo id ⟨eD rfl rfl, eD rfl rfl, eD rfl rfl, eD rfl rfl, eD rfl rfl, eD rfl rfl, trivial⟩ trivial rfl rfl rfl rfl (fun _ _ => rfl)
    refine thenQ_n ?_
    refine Wcond rfl rfl (fun hc1 => absurd hc1 (by simp)) (fun hc1 => ?_)
    refine W_skip rfl ?_
    refine thenQ_n ?_
    refine W_seq rfl ?_
    refine W_seq rfl ?_
    refine W_reg rfl ?_
    refine Rv rfl rfl rfl (U_move rfl) rfl rfl ?_
    refine Rv rfl rfl rfl (U_neq rfl rfl) rfl rfl ?_
    refine Re rfl ?_
    refine thenQ_n ?_
    refine WcondP rfl rfl (fun hc2 => ?_) (fun hc2 => ?_)
    · simp only [if_neg hc2]
      refine W_seq rfl ?_
      refine W_reg rfl ?_
      refine Rv rfl rfl rfl (U_move rfl) rfl rfl ?_
      refine Rv rfl rfl rfl (U_eql rfl rfl) rfl rfl ?_
      refine Rv rfl rfl rfl (U_move rfl) rfl rfl ?_
      refine Rv rfl rfl rfl (U_move rfl) rfl rfl ?_
      refine Rv rfl rfl rfl (U_eql rfl rfl) rfl rfl ?_
      refine Rv rfl rfl rfl (U_pick_t rfl rfl) rfl rfl ?_
      refine Rv rfl rfl rfl (U_move rfl) rfl rfl ?_
      refine Rv rfl rfl rfl (U_call rfl rfl (works_p) rfl) rfl rfl ?_
      refine Rv rfl rfl rfl (U_pick_t rfl rfl) rfl rfl ?_
      refine Rv rfl rfl rfl (U_assign rfl) rfl rfl ?_
      refine Re rfl ?_
      refine thenQ_n ?_
      refine W_ret rfl ?_
      refine thenQ_r ?_
      exact retL (rlT rfl rl0) rfl rfl
    · rw [Decidable.not_not] at hc2
      simp only [if_pos hc2]
      have hm : movS s = 0 := by omega
      have hk : chkS s = 0 := mov_chk hm
      have hg := good_of hk
      refine W_skip rfl ?_
      refine thenQ_n ?_
      refine W_seq rfl ?_
      refine W_reg rfl ?_
      refine Rv rfl rfl rfl (U_load3 rfl rfl rfl rfl rfl) rfl rfl ?_
      refine Rv rfl rfl rfl (U_move rfl) rfl rfl ?_
      refine Rv rfl rfl rfl (U_move rfl) rfl rfl ?_
      refine Rv rfl rfl rfl (U_move rfl) rfl rfl ?_
      refine Rv rfl rfl rfl (U_call rfl rfl (bestR_p hk c hl true) rfl) rfl rfl ?_
      refine Rv rfl rfl rfl (U_move rfl) rfl rfl ?_
      refine Rv rfl rfl rfl (U_extract rfl rfl) rfl rfl ?_
      refine Rv rfl rfl rfl (U_extract rfl rfl) rfl rfl ?_
      refine Ra rfl rfl rfl (U_alloc) rfl rfl rfl ?_
      refine Rn rfl rfl rfl (U_storeAll rfl rfl rfl rfl rfl rfl) rfl ?_
      refine Rv rfl rfl rfl (U_assign rfl) rfl rfl ?_
      refine Re rfl ?_
      refine thenQ_n ?_
      refine WfrN 0 rfl rfl (T' := [(1, .bool true), (4, .rop [i64 s.lo, i64 s.hi, .ros (s.es.flatMap entC) s.es.length c] 0), (17, .rop [i64 ((endQ s true).1), i64 ((endQ s true).2)] 0), (18, i64 0)]) (H' := []) ⟨⟨_, rfl, rfl⟩, ⟨_, rfl, rfl⟩, ⟨_, rfl, rfl⟩, ⟨_, rfl, rfl⟩, trivial⟩ trivial ?_
      refine W_seq rfl ?_
      refine W_reg rfl ?_
      refine Rv rfl rfl rfl (U_load3 rfl rfl rfl rfl rfl) rfl rfl ?_
      refine Rv rfl rfl rfl (U_call rfl rfl (rateOf_p s c hg) rfl) rfl rfl ?_
      refine Rv rfl rfl rfl (U_move rfl) rfl rfl ?_
      refine Rv rfl rfl rfl (U_extract rfl rfl) rfl rfl ?_
      refine Rv rfl rfl rfl (U_extract rfl rfl) rfl rfl ?_
      refine Ra rfl rfl rfl (U_alloc) rfl rfl rfl ?_
      refine Ra rfl rfl rfl (U_alloc) rfl rfl rfl ?_
      refine Rn rfl rfl rfl (U_storeAll rfl rfl rfl rfl rfl rfl) rfl ?_
      refine Rn rfl rfl rfl (U_storeAll rfl rfl rfl rfl rfl rfl) rfl ?_
      refine Re rfl ?_
      refine thenQ_n ?_
      refine WfrN 1 rfl rfl (T' := [(1, .bool true), (17, .rop [i64 ((endQ s true).1), i64 ((endQ s true).2)] 0), (18, i64 0), (19, .rop [i64 ((endQ s false).1), i64 ((endQ s false).2)] 0), (20, .ptr 2 0)]) (H' := [(2, some (.cells [i64 ((endQ s true).1), i64 ((endQ s true).2)] 28))]) ⟨⟨_, rfl, rfl⟩, ⟨_, rfl, rfl⟩, ⟨_, rfl, rfl⟩, ⟨_, rfl, rfl⟩, ⟨_, rfl, rfl⟩, trivial⟩ ⟨⟨rfl, rF rfl rfl⟩, trivial⟩ ?_
      refine WfrN 2 rfl rfl (T' := [(1, .bool true), (17, .rop [i64 ((endQ s true).1), i64 ((endQ s true).2)] 0), (18, i64 0), (19, .rop [i64 ((endQ s false).1), i64 ((endQ s false).2)] 0), (20, .rop [i64 ((endQ s true).1), i64 ((endQ s true).2)] 0)]) (H' := []) ⟨⟨_, rfl, rfl⟩, ⟨_, rfl, rfl⟩, ⟨_, rfl, rfl⟩, ⟨_, rfl, rfl⟩, ⟨_, rfl, rfl⟩, trivial⟩ trivial ?_
      refine W_seq rfl ?_
      refine Wjoin ⟨[(8, .bool (decide (((endQ s true).1) = ((endQ s true).1) ∧ ((endQ s true).2) = ((endQ s true).2))))], [], 0, []⟩ ?_ ?_
      · refine W_reg rfl ?_
        refine Rv rfl rfl rfl (U_move rfl) rfl rfl ?_
        refine Rv rfl rfl rfl (U_eql rfl rfl) rfl rfl ?_
        refine Rv rfl rfl rfl (U_move rfl) rfl rfl ?_
        refine Rv rfl rfl rfl (U_move rfl) rfl rfl ?_
        refine Rv rfl rfl rfl (U_move rfl) rfl rfl ?_
        refine Rv rfl rfl rfl (U_load2 rfl rfl rfl rfl) rfl rfl ?_
        refine Rv rfl rfl rfl (U_load2 rfl rfl rfl rfl) rfl rfl ?_
        refine Rv rfl rfl rfl (U_eqlA (p := ((endQ s true).1) = ((endQ s true).1) ∧ ((endQ s true).2) = ((endQ s true).2)) rfl rfl rfl rfl rfl rfl (by simp)) rfl rfl ?_
        refine Rv rfl rfl rfl (U_pick_t rfl rfl) rfl rfl ?_
        refine Rv rfl rfl rfl (U_move rfl) rfl rfl ?_
        refine Rsplit (t := 95) rfl (fun hg3 => ?_) (fun hg3 => ?_)
        · rw [hg3]
          have hg3' : ((endQ s true).1) = ((endQ s true).1) ∧ ((endQ s true).2) = ((endQ s true).2) := of_decide_eq_true hg3
          refine Rs rfl rfl rfl rfl rfl ?_
          refine Rs rfl rfl rfl rfl rfl ?_
          refine Rs rfl rfl rfl rfl rfl ?_
          refine Rs rfl rfl rfl rfl rfl ?_
          refine Rs rfl rfl rfl rfl rfl ?_
          refine Rs rfl rfl rfl rfl rfl ?_
          refine Rs rfl rfl rfl rfl rfl ?_
          refine Rv rfl rfl rfl (U_pick_t rfl rfl) rfl rfl ?_
          refine Rv rfl rfl rfl (U_pick_t rfl rfl) rfl rfl ?_
          refine Rv rfl rfl rfl (U_move rfl) rfl rfl ?_
          refine Rv rfl rfl rfl (U_call rfl rfl (works_p) rfl) rfl rfl ?_
          refine Rv rfl rfl rfl (U_pick_t rfl rfl) rfl rfl ?_
          refine Rv rfl rfl rfl (U_assign rfl) rfl rfl ?_
          refine Re rfl ?_
          exact joinTo id ⟨eD rfl rfl, trivial⟩ trivial rfl rfl rfl rfl (fun _ _ => rfl)
        · rw [hg3]
          have hg3' : ¬ (((endQ s true).1) = ((endQ s true).1) ∧ ((endQ s true).2) = ((endQ s true).2)) := of_decide_eq_false hg3
          refine Rv rfl rfl rfl (U_move rfl) rfl rfl ?_
          refine Rv rfl rfl rfl (U_not rfl) rfl rfl ?_
          refine Rv rfl rfl rfl (U_move rfl) rfl rfl ?_
          refine Rs rfl rfl rfl rfl rfl ?_
          refine Rs rfl rfl rfl rfl rfl ?_
          refine Rs rfl rfl rfl rfl rfl ?_
          refine Rv rfl rfl rfl (U_pick_f rfl rfl) rfl rfl ?_
          refine Rv rfl rfl rfl (U_pick_f rfl rfl) rfl rfl ?_
          refine Rv rfl rfl rfl (U_pick_t rfl rfl) rfl rfl ?_
          refine Rv rfl rfl rfl (U_move rfl) rfl rfl ?_
          refine Rs rfl rfl rfl rfl rfl ?_
          refine Rv rfl rfl rfl (U_pick_f rfl rfl) rfl rfl ?_
          refine Rv rfl rfl rfl (U_assign rfl) rfl rfl ?_
          refine Re rfl ?_
          exact joinTo id ⟨eD rfl rfl, trivial⟩ trivial rfl rfl rfl rfl (fun _ _ => rfl)
      refine thenQ_n ?_
      refine W_ret rfl ?_
      exact retL (rlT rfl rl0) (by first | rfl | (simp only [packA]; simp; first | done | rfl) | (simp only [packA]; simp [hc2]; first | done | rfl)) rfl
theorem driftBounds_false (s : Star) (c : Option Nat) (a b : Int) : Pure Try.prog 4 [starA s c, .bool false, i64 a, i64 b] (.bool true) := by
  refine pure_of_body Try.func4 (c := body Try.f4) rfl (by simp [Try.ntmps4]) fun w0 Φ0 => ?_
  refine W_seq rfl ?_
  refine W_reg rfl ?_
  refine Rv rfl rfl rfl (U_boxF rfl rfl rfl) rfl rfl ?_
  refine Rv rfl rfl rfl (U_assign rfl) rfl rfl ?_
  refine Re rfl ?_
  refine thenQ_n ?_
  refine W_seq rfl ?_
  refine W_seq rfl ?_
  refine W_reg rfl ?_
  refine Rv rfl rfl rfl (U_load3 rfl rfl rfl rfl rfl) rfl rfl ?_
  refine Rv rfl rfl rfl (U_call rfl rfl (great_p s c) rfl) rfl rfl ?_
  refine Re rfl ?_
  refine thenQ_n ?_
  refine WcondP rfl rfl (fun hc0 => ?_) (fun hc0 => ?_)
  · refine W_seq rfl ?_
    refine W_reg rfl ?_
    refine Rv rfl rfl rfl (U_call rfl rfl (works_p) rfl) rfl rfl ?_
    refine Rv rfl rfl rfl (U_assign rfl) rfl rfl ?_
    refine Re rfl ?_
    refine thenQ_n ?_
    refine W_ret rfl ?_
    refine thenQ_r ?_
    exact retL (rlT rfl rl0) rfl rfl
  · have hl : s.es.length ≤ 20 := by simpa using hc0
    refine W_skip rfl ?_
    refine thenQ_n ?_
    refine W_seq rfl ?_
    refine W_reg rfl ?_
    refine Rv rfl rfl rfl (U_load3 rfl rfl rfl rfl rfl) rfl rfl ?_
    refine Rv rfl rfl rfl (U_move rfl) rfl rfl ?_
    refine Rv rfl rfl rfl (U_move rfl) rfl rfl ?_
    refine Rv rfl rfl rfl (U_move rfl) rfl rfl ?_
    refine Rv rfl rfl rfl (U_call rfl rfl (checkBound_p s c (by omega) false a b) rfl) rfl rfl ?_
    refine Rv rfl rfl rfl (U_move rfl) rfl rfl ?_
    refine Rv rfl rfl rfl (U_extract rfl rfl) rfl rfl ?_
    refine Rv rfl rfl rfl (U_extract rfl rfl) rfl rfl ?_
    refine Ra rfl rfl rfl (U_alloc) rfl rfl rfl ?_
    refine Rn rfl rfl rfl (U_storeAll rfl rfl rfl rfl rfl rfl) rfl ?_
    refine Rv rfl rfl rfl (U_assign rfl) rfl rfl ?_
    refine Re rfl ?_
    refine thenQ_n ?_
    refine WfrN 0 rfl rfl (T' := [(1, .bool false), (2, i64 a), (3, i64 b), (4, .rop [i64 s.lo, i64 s.hi, .ros (s.es.flatMap entC) s.es.length c] 0), (9, .rop [i64 ((if cbS s (a, b) = 0 then bnd s false (a, b) else (0, 0)).1), i64 ((if cbS s (a, b) = 0 then bnd s false (a, b) else (0, 0)).2)] 0), (10, i64 (cbS s (a, b)))]) (H' := []) ⟨⟨_, rfl, rfl⟩, ⟨_, rfl, rfl⟩, ⟨_, rfl, rfl⟩, ⟨_, rfl, rfl⟩, ⟨_, rfl, rfl⟩, ⟨_, rfl, rfl⟩, trivial⟩ trivial ?_
    refine W_seq rfl ?_
    refine W_reg rfl ?_
    refine Rv rfl rfl rfl (U_load3 rfl rfl rfl rfl rfl) rfl rfl ?_
    refine Rv rfl rfl rfl (U_move rfl) rfl rfl ?_
    refine Rv rfl rfl rfl (U_move rfl) rfl rfl ?_
    refine Rv rfl rfl rfl (U_move rfl) rfl rfl ?_
    refine Rv rfl rfl rfl (U_call rfl rfl (checkBoundR_p s c (by omega) false a b) rfl) rfl rfl ?_
    refine Rv rfl rfl rfl (U_move rfl) rfl rfl ?_
    refine Rv rfl rfl rfl (U_extract rfl rfl) rfl rfl ?_
    refine Rv rfl rfl rfl (U_extract rfl rfl) rfl rfl ?_
    refine Ra rfl rfl rfl (U_alloc) rfl rfl rfl ?_
    refine Rn rfl rfl rfl (U_storeAll rfl rfl rfl rfl rfl rfl) rfl ?_
    refine Rv rfl rfl rfl (U_assign rfl) rfl rfl ?_
    refine Re rfl ?_
    refine thenQ_n ?_
    refine WfrN 1 rfl rfl (T' := [(1, .bool false), (4, .rop [i64 s.lo, i64 s.hi, .ros (s.es.flatMap entC) s.es.length c] 0), (9, .rop [i64 ((if cbS s (a, b) = 0 then bnd s false (a, b) else (0, 0)).1), i64 ((if cbS s (a, b) = 0 then bnd s false (a, b) else (0, 0)).2)] 0), (10, i64 (cbS s (a, b))), (11, .rop [i64 ((if cbS s (a, b) = 0 then bnd s false (a, b) else (0, 0)).1), i64 ((if cbS s (a, b) = 0 then bnd s false (a, b) else (0, 0)).2)] 0), (12, i64 (cbS s (a, b)))]) (H' := []) ⟨⟨_, rfl, rfl⟩, ⟨_, rfl, rfl⟩, ⟨_, rfl, rfl⟩, ⟨_, rfl, rfl⟩, ⟨_, rfl, rfl⟩, ⟨_, rfl, rfl⟩, trivial⟩ trivial ?_
    refine W_seq rfl ?_
    refine W_reg rfl ?_
    refine Rv rfl rfl rfl (U_load3 rfl rfl rfl rfl rfl) rfl rfl ?_
    refine Rv rfl rfl rfl (U_move rfl) rfl rfl ?_
    refine Rv rfl rfl rfl (U_call rfl rfl (boundOf_p s c (by omega) false) rfl) rfl rfl ?_
    refine Rv rfl rfl rfl (U_move rfl) rfl rfl ?_
    refine Rv rfl rfl rfl (U_extract rfl rfl) rfl rfl ?_
    refine Rv rfl rfl rfl (U_extract rfl rfl) rfl rfl ?_
    refine Rv rfl rfl rfl (U_extract rfl rfl) rfl rfl ?_
    refine Rv rfl rfl rfl (U_assign rfl) rfl rfl ?_
    refine Rv rfl rfl rfl (U_assign rfl) rfl rfl ?_
    refine Rv rfl rfl rfl (U_assign rfl) rfl rfl ?_
    refine Re rfl ?_
    refine thenQ_n ?_
    refine W_seq rfl ?_
    refine W_reg rfl ?_
    refine Rv rfl rfl rfl (U_load3 rfl rfl rfl rfl rfl) rfl rfl ?_
    refine Rv rfl rfl rfl (U_call rfl rfl (starErrorR_p s c (by omega)) rfl) rfl rfl ?_
    refine Rv rfl rfl rfl (U_assign rfl) rfl rfl ?_
    refine Re rfl ?_
    refine thenQ_n ?_
    refine W_seq rfl ?_
    refine W_seq rfl ?_
    refine Wjoin ⟨[(1, .bool false), (4, .rop [i64 s.lo, i64 s.hi, .ros (s.es.flatMap entC) s.es.length c] 0), (13, i64 (if movS s = 0 then (bestP s false).1 else 0)), (14, i64 (if movS s = 0 then (bestP s false).2 else 0)), (16, i64 (movS s)), (61, .bool ((decide (¬ (((if cbS s (a, b) = 0 then bnd s false (a, b) else (0, 0)).1) = ((if cbS s (a, b) = 0 then bnd s false (a, b) else (0, 0)).1) ∧ ((if cbS s (a, b) = 0 then bnd s false (a, b) else (0, 0)).2) = ((if cbS s (a, b) = 0 then bnd s false (a, b) else (0, 0)).2)))) || ((decide ((cbS s (a, b)) ≠ (cbS s (a, b)))) || (decide ((movS s) ≠ (movS s))))))], [], 0, []⟩ ?_ ?_
    · refine W_reg rfl ?_
      refine Rv rfl rfl rfl (U_load2 rfl rfl rfl rfl) rfl rfl ?_
      refine Rv rfl rfl rfl (U_load2 rfl rfl rfl rfl) rfl rfl ?_
      refine Rv rfl rfl rfl (U_neqA (p := ((if cbS s (a, b) = 0 then bnd s false (a, b) else (0, 0)).1) = ((if cbS s (a, b) = 0 then bnd s false (a, b) else (0, 0)).1) ∧ ((if cbS s (a, b) = 0 then bnd s false (a, b) else (0, 0)).2) = ((if cbS s (a, b) = 0 then bnd s false (a, b) else (0, 0)).2)) rfl rfl rfl rfl rfl rfl (by simp)) rfl rfl ?_
      refine Rv rfl rfl rfl (U_move rfl) rfl rfl ?_
      refine Rsplit (t := 52) rfl (fun hg1 => ?_) (fun hg1 => ?_)
      · rw [hg1]
        have hg1' : ¬ (((if cbS s (a, b) = 0 then bnd s false (a, b) else (0, 0)).1) = ((if cbS s (a, b) = 0 then bnd s false (a, b) else (0, 0)).1) ∧ ((if cbS s (a, b) = 0 then bnd s false (a, b) else (0, 0)).2) = ((if cbS s (a, b) = 0 then bnd s false (a, b) else (0, 0)).2)) := of_decide_eq_true hg1
        refine Rs rfl rfl rfl rfl rfl ?_
        refine Rs rfl rfl rfl rfl rfl ?_
        refine Rs rfl rfl rfl rfl rfl ?_
        refine Rv rfl rfl rfl (U_pick_t rfl rfl) rfl rfl ?_
        refine Rv rfl rfl rfl (U_move rfl) rfl rfl ?_
        refine Rs rfl rfl rfl rfl rfl ?_
        refine Rs rfl rfl rfl rfl rfl ?_
        refine Rs rfl rfl rfl rfl rfl ?_
        refine Rv rfl rfl rfl (U_pick_t rfl rfl) rfl rfl ?_
        refine Re rfl ?_
        exact joinTo id ⟨eD rfl rfl, eD rfl rfl, eD rfl rfl, eD rfl rfl, eD rfl rfl, eD rfl rfl, trivial⟩ trivial rfl rfl rfl rfl (fun _ _ => rfl)
      · rw [hg1]
        have hg1' : ¬ (¬ (((if cbS s (a, b) = 0 then bnd s false (a, b) else (0, 0)).1) = ((if cbS s (a, b) = 0 then bnd s false (a, b) else (0, 0)).1) ∧ ((if cbS s (a, b) = 0 then bnd s false (a, b) else (0, 0)).2) = ((if cbS s (a, b) = 0 then bnd s false (a, b) else (0, 0)).2))) := of_decide_eq_false hg1
        refine Rv rfl rfl rfl (U_move rfl) rfl rfl ?_
        refine Rv rfl rfl rfl (U_move rfl) rfl rfl ?_
        refine Rv rfl rfl rfl (U_neq rfl rfl) rfl rfl ?_
        refine Rv rfl rfl rfl (U_pick_f rfl rfl) rfl rfl ?_
        refine Rv rfl rfl rfl (U_move rfl) rfl rfl ?_
        refine Rsplit (t := 57) rfl (fun hg2 => ?_) (fun hg2 => ?_)
        · rw [hg2]
          have hg2' : (cbS s (a, b)) ≠ (cbS s (a, b)) := of_decide_eq_true hg2
          refine Rs rfl rfl rfl rfl rfl ?_
          refine Rs rfl rfl rfl rfl rfl ?_
          refine Rs rfl rfl rfl rfl rfl ?_
          refine Rv rfl rfl rfl (U_pick_t rfl rfl) rfl rfl ?_
          refine Re rfl ?_
          exact joinTo id ⟨eD rfl rfl, eD rfl rfl, eD rfl rfl, eD rfl rfl, eD rfl rfl, eD rfl rfl, trivial⟩ trivial rfl rfl rfl rfl (fun _ _ => rfl)
        · rw [hg2]
          have hg2' : ¬ ((cbS s (a, b)) ≠ (cbS s (a, b))) := of_decide_eq_false hg2
          refine Rv rfl rfl rfl (U_move rfl) rfl rfl ?_
          refine Rv rfl rfl rfl (U_move rfl) rfl rfl ?_
          refine Rv rfl rfl rfl (U_neq rfl rfl) rfl rfl ?_
          refine Rv rfl rfl rfl (U_pick_f rfl rfl) rfl rfl ?_
          refine Re rfl ?_
          exact joinTo id ⟨eD rfl rfl, eD rfl rfl, eD rfl rfl, eD rfl rfl, eD rfl rfl, eD rfl rfl, trivial⟩ trivial rfl rfl rfl rfl (fun _ _ => rfl)
    refine thenQ_n ?_
    refine Wcond rfl rfl (fun hc1 => absurd hc1 (by simp)) (fun hc1 => ?_)
    refine W_skip rfl ?_
    refine thenQ_n ?_
    refine W_seq rfl ?_
    refine W_seq rfl ?_
    refine W_reg rfl ?_
    refine Rv rfl rfl rfl (U_move rfl) rfl rfl ?_
    refine Rv rfl rfl rfl (U_neq rfl rfl) rfl rfl ?_
    refine Re rfl ?_
    refine thenQ_n ?_
    refine WcondP rfl rfl (fun hc2 => ?_) (fun hc2 => ?_)
    · simp only [if_neg hc2]
      refine W_seq rfl ?_
      refine W_reg rfl ?_
      refine Rv rfl rfl rfl (U_move rfl) rfl rfl ?_
      refine Rv rfl rfl rfl (U_eql rfl rfl) rfl rfl ?_
      refine Rv rfl rfl rfl (U_move rfl) rfl rfl ?_
      refine Rv rfl rfl rfl (U_move rfl) rfl rfl ?_
      refine Rv rfl rfl rfl (U_eql rfl rfl) rfl rfl ?_
      refine Rv rfl rfl rfl (U_pick_t rfl rfl) rfl rfl ?_
      refine Rv rfl rfl rfl (U_move rfl) rfl rfl ?_
      refine Rv rfl rfl rfl (U_call rfl rfl (works_p) rfl) rfl rfl ?_
      refine Rv rfl rfl rfl (U_pick_t rfl rfl) rfl rfl ?_
      refine Rv rfl rfl rfl (U_assign rfl) rfl rfl ?_
      refine Re rfl ?_
      refine thenQ_n ?_
      refine W_ret rfl ?_
      refine thenQ_r ?_
      exact retL (rlT rfl rl0) rfl rfl
    · rw [Decidable.not_not] at hc2
      simp only [if_pos hc2]
      have hm : movS s = 0 := by omega
      have hk : chkS s = 0 := mov_chk hm
      have hg := good_of hk
      refine W_skip rfl ?_
      refine thenQ_n ?_
      refine W_seq rfl ?_
      refine W_reg rfl ?_
      refine Rv rfl rfl rfl (U_load3 rfl rfl rfl rfl rfl) rfl rfl ?_
      refine Rv rfl rfl rfl (U_move rfl) rfl rfl ?_
      refine Rv rfl rfl rfl (U_move rfl) rfl rfl ?_
      refine Rv rfl rfl rfl (U_move rfl) rfl rfl ?_
      refine Rv rfl rfl rfl (U_call rfl rfl (bestR_p hk c hl false) rfl) rfl rfl ?_
      refine Rv rfl rfl rfl (U_move rfl) rfl rfl ?_
      refine Rv rfl rfl rfl (U_extract rfl rfl) rfl rfl ?_
      refine Rv rfl rfl rfl (U_extract rfl rfl) rfl rfl ?_
      refine Ra rfl rfl rfl (U_alloc) rfl rfl rfl ?_
      refine Rn rfl rfl rfl (U_storeAll rfl rfl rfl rfl rfl rfl) rfl ?_
      refine Rv rfl rfl rfl (U_assign rfl) rfl rfl ?_
      refine Re rfl ?_
      refine thenQ_n ?_
      refine WfrN 0 rfl rfl (T' := [(1, .bool false), (4, .rop [i64 s.lo, i64 s.hi, .ros (s.es.flatMap entC) s.es.length c] 0), (17, .rop [i64 ((endQ s false).1), i64 ((endQ s false).2)] 0), (18, i64 0)]) (H' := []) ⟨⟨_, rfl, rfl⟩, ⟨_, rfl, rfl⟩, ⟨_, rfl, rfl⟩, ⟨_, rfl, rfl⟩, trivial⟩ trivial ?_
      refine W_seq rfl ?_
      refine W_reg rfl ?_
      refine Rv rfl rfl rfl (U_load3 rfl rfl rfl rfl rfl) rfl rfl ?_
      refine Rv rfl rfl rfl (U_call rfl rfl (rateOf_p s c hg) rfl) rfl rfl ?_
      refine Rv rfl rfl rfl (U_move rfl) rfl rfl ?_
      refine Rv rfl rfl rfl (U_extract rfl rfl) rfl rfl ?_
      refine Rv rfl rfl rfl (U_extract rfl rfl) rfl rfl ?_
      refine Ra rfl rfl rfl (U_alloc) rfl rfl rfl ?_
      refine Ra rfl rfl rfl (U_alloc) rfl rfl rfl ?_
      refine Rn rfl rfl rfl (U_storeAll rfl rfl rfl rfl rfl rfl) rfl ?_
      refine Rn rfl rfl rfl (U_storeAll rfl rfl rfl rfl rfl rfl) rfl ?_
      refine Re rfl ?_
      refine thenQ_n ?_
      refine WfrN 1 rfl rfl (T' := [(1, .bool false), (17, .rop [i64 ((endQ s false).1), i64 ((endQ s false).2)] 0), (18, i64 0), (19, .rop [i64 ((endQ s false).1), i64 ((endQ s false).2)] 0), (20, .ptr 2 0)]) (H' := [(2, some (.cells [i64 ((endQ s true).1), i64 ((endQ s true).2)] 28))]) ⟨⟨_, rfl, rfl⟩, ⟨_, rfl, rfl⟩, ⟨_, rfl, rfl⟩, ⟨_, rfl, rfl⟩, ⟨_, rfl, rfl⟩, trivial⟩ ⟨⟨rfl, rF rfl rfl⟩, trivial⟩ ?_
      refine WfrN 2 rfl rfl (T' := [(1, .bool false), (17, .rop [i64 ((endQ s false).1), i64 ((endQ s false).2)] 0), (18, i64 0), (19, .rop [i64 ((endQ s false).1), i64 ((endQ s false).2)] 0), (20, .rop [i64 ((endQ s true).1), i64 ((endQ s true).2)] 0)]) (H' := []) ⟨⟨_, rfl, rfl⟩, ⟨_, rfl, rfl⟩, ⟨_, rfl, rfl⟩, ⟨_, rfl, rfl⟩, ⟨_, rfl, rfl⟩, trivial⟩ trivial ?_
      refine W_seq rfl ?_
      refine Wjoin ⟨[(8, .bool (decide (((endQ s false).1) = ((endQ s false).1) ∧ ((endQ s false).2) = ((endQ s false).2))))], [], 0, []⟩ ?_ ?_
      · refine W_reg rfl ?_
        refine Rv rfl rfl rfl (U_move rfl) rfl rfl ?_
        refine Rv rfl rfl rfl (U_eql rfl rfl) rfl rfl ?_
        refine Rv rfl rfl rfl (U_move rfl) rfl rfl ?_
        refine Rv rfl rfl rfl (U_move rfl) rfl rfl ?_
        refine Rv rfl rfl rfl (U_move rfl) rfl rfl ?_
        refine Rs rfl rfl rfl rfl rfl ?_
        refine Rs rfl rfl rfl rfl rfl ?_
        refine Rs rfl rfl rfl rfl rfl ?_
        refine Rv rfl rfl rfl (U_pick_f rfl rfl) rfl rfl ?_
        refine Rv rfl rfl rfl (U_move rfl) rfl rfl ?_
        refine Rv rfl rfl rfl (U_move rfl) rfl rfl ?_
        refine Rv rfl rfl rfl (U_not rfl) rfl rfl ?_
        refine Rv rfl rfl rfl (U_move rfl) rfl rfl ?_
        refine Rv rfl rfl rfl (U_load2 rfl rfl rfl rfl) rfl rfl ?_
        refine Rv rfl rfl rfl (U_load2 rfl rfl rfl rfl) rfl rfl ?_
        refine Rv rfl rfl rfl (U_eqlA (p := ((endQ s false).1) = ((endQ s false).1) ∧ ((endQ s false).2) = ((endQ s false).2)) rfl rfl rfl rfl rfl rfl (by simp)) rfl rfl ?_
        refine Rv rfl rfl rfl (U_pick_t rfl rfl) rfl rfl ?_
        refine Rv rfl rfl rfl (U_pick_f rfl rfl) rfl rfl ?_
        refine Rv rfl rfl rfl (U_pick_t rfl rfl) rfl rfl ?_
        refine Rv rfl rfl rfl (U_move rfl) rfl rfl ?_
        refine Rsplit (t := 105) rfl (fun hg3 => ?_) (fun hg3 => ?_)
        · rw [hg3]
          have hg3' : ((endQ s false).1) = ((endQ s false).1) ∧ ((endQ s false).2) = ((endQ s false).2) := of_decide_eq_true hg3
          refine Rv rfl rfl rfl (U_call rfl rfl (works_p) rfl) rfl rfl ?_
          refine Rv rfl rfl rfl (U_pick_t rfl rfl) rfl rfl ?_
          refine Rv rfl rfl rfl (U_assign rfl) rfl rfl ?_
          refine Re rfl ?_
          exact joinTo id ⟨eD rfl rfl, trivial⟩ trivial rfl rfl rfl rfl (fun _ _ => rfl)
        · rw [hg3]
          have hg3' : ¬ (((endQ s false).1) = ((endQ s false).1) ∧ ((endQ s false).2) = ((endQ s false).2)) := of_decide_eq_false hg3
          refine Rs rfl rfl rfl rfl rfl ?_
          refine Rv rfl rfl rfl (U_pick_f rfl rfl) rfl rfl ?_
          refine Rv rfl rfl rfl (U_assign rfl) rfl rfl ?_
          refine Re rfl ?_
          exact joinTo id ⟨eD rfl rfl, trivial⟩ trivial rfl rfl rfl rfl (fun _ _ => rfl)
      refine thenQ_n ?_
      refine W_ret rfl ?_
      exact retL (rlT rfl rl0) (by first | rfl | (simp only [packA]; simp; first | done | rfl) | (simp only [packA]; simp [hc2]; first | done | rfl)) rfl
theorem driftBounds_p (s : Star) (c : Option Nat) (high : Bool) (a b : Int) : Pure Try.prog 4 [starA s c, .bool high, i64 a, i64 b] (.bool true) := by
  cases high
  · exact driftBounds_false s c a b
  · exact driftBounds_true s c a b
theorem clS_eq (s : Star) : clS s = if chkS s = 0 ∧ hasB s = true then 5 else chkS s := by
  unfold clS
  by_cases h : chkS s = 0 <;> by_cases h2 : hasB s = true <;> simp [h, h2]
theorem bestClash {s : Star} (hk : chkS s = 0) (hh : hasB s = false) : ccS s (bestP s false) (bestP s true) = 0 := by
  rw [ccS, if_pos hk, if_neg (by simp [bestP_pair])]
  have : lessQ (bnd s true (bestP s true)) (bnd s false (bestP s false)) = true := by
    have h2 := hh; unfold hasB endQ at h2; simpa using h2
  rw [this]; rfl
theorem clN1 {s : Star} (h : (decide (chkS s = 0) && hasB s) = true) : clS s ≠ 0 := by
  rw [clS_eq, if_pos (by simpa using h)]; decide
theorem clN2 {s : Star} (h : chkS s ≠ 0) : clS s ≠ 0 := by
  rw [clS_eq, if_neg (fun k => h k.1)]; exact h
theorem clN3 {s : Star} (h : (decide (chkS s = 0) && hasB s) = false) (h1 : chkS s = 0) : clS s = 0 ∧ ccS s (bestP s false) (bestP s true) = 0 := by
  have h2 : hasB s = false := by simpa [h1] using h
  exact ⟨by rw [clS_eq]; simp [h1, h2], bestClash h1 h2⟩
theorem driftClashes_p (s : Star) (c : Option Nat) (lo hi : Int × Int) : Pure Try.prog 5 [starA s c, pairA lo, pairA hi] (.bool true) := by
  refine pure_of_body Try.func5 (c := body Try.f5) rfl (by simp [Try.ntmps5]) fun w0 Φ0 => ?_
  refine W_seq rfl ?_
  refine W_reg rfl ?_
  refine Rv rfl rfl rfl (U_boxF rfl rfl rfl) rfl rfl ?_
  refine Rv rfl rfl rfl (U_boxF rfl rfl rfl) rfl rfl ?_
  refine Rv rfl rfl rfl (U_boxF rfl rfl rfl) rfl rfl ?_
  refine Rv rfl rfl rfl (U_assign rfl) rfl rfl ?_
  refine Re rfl ?_
  refine thenQ_n ?_
  refine W_seq rfl ?_
  refine W_seq rfl ?_
  refine W_reg rfl ?_
  refine Rv rfl rfl rfl (U_load3 rfl rfl rfl rfl rfl) rfl rfl ?_
  refine Rv rfl rfl rfl (U_call rfl rfl (great_p s c) rfl) rfl rfl ?_
  refine Re rfl ?_
  refine thenQ_n ?_
  refine WcondP rfl rfl (fun hc0 => ?_) (fun hc0 => ?_)
  · refine W_seq rfl ?_
    refine W_reg rfl ?_
    refine Rv rfl rfl rfl (U_call rfl rfl (works_p) rfl) rfl rfl ?_
    refine Rv rfl rfl rfl (U_assign rfl) rfl rfl ?_
    refine Re rfl ?_
    refine thenQ_n ?_
    refine W_ret rfl ?_
    refine thenQ_r ?_
    exact retL (rlT rfl rl0) rfl rfl
  · have hl : s.es.length ≤ 20 := by simpa using hc0
    refine W_skip rfl ?_
    refine thenQ_n ?_
    refine W_seq rfl ?_
    refine W_reg rfl ?_
    refine Rv rfl rfl rfl (U_load3 rfl rfl rfl rfl rfl) rfl rfl ?_
    refine Rv rfl rfl rfl (U_call rfl rfl (clash_p s c (by omega)) rfl) rfl rfl ?_
    refine Rv rfl rfl rfl (U_move rfl) rfl rfl ?_
    refine Rv rfl rfl rfl (U_extract rfl rfl) rfl rfl ?_
    refine Rv rfl rfl rfl (U_extract rfl rfl) rfl rfl ?_
    refine Rv rfl rfl rfl (U_extract rfl rfl) rfl rfl ?_
    refine Ra rfl rfl rfl (U_alloc) rfl rfl rfl ?_
    refine Ra rfl rfl rfl (U_alloc) rfl rfl rfl ?_
    refine Rn rfl rfl rfl (U_storeAll rfl rfl rfl rfl rfl rfl) rfl ?_
    refine Rn rfl rfl rfl (U_storeAll rfl rfl rfl rfl rfl rfl) rfl ?_
    refine Rv rfl rfl rfl (U_assign rfl) rfl rfl ?_
    refine Re rfl ?_
    refine thenQ_n ?_
    refine WfrN 0 rfl rfl (T' := [(3, .rop [i64 s.lo, i64 s.hi, .ros (s.es.flatMap entC) s.es.length c] 0), (4, .rop [i64 lo.1, i64 lo.2] 0), (5, .rop [i64 hi.1, i64 hi.2] 0), (7, .rop [i64 ((if clS s = 0 then bestP s false else (0, 0)).1), i64 ((if clS s = 0 then bestP s false else (0, 0)).2)] 0), (8, .ptr 1 0), (9, i64 (clS s))]) (H' := [(1, some (.cells [i64 ((if clS s = 0 then bestP s true else (0, 0)).1), i64 ((if clS s = 0 then bestP s true else (0, 0)).2)] 44))]) ⟨⟨_, rfl, rfl⟩, ⟨_, rfl, rfl⟩, ⟨_, rfl, rfl⟩, ⟨_, rfl, rfl⟩, ⟨_, rfl, rfl⟩, ⟨_, rfl, rfl⟩, trivial⟩ ⟨⟨rfl, rF rfl rfl⟩, trivial⟩ ?_
    refine WfrN 1 rfl rfl (T' := [(3, .rop [i64 s.lo, i64 s.hi, .ros (s.es.flatMap entC) s.es.length c] 0), (4, .rop [i64 lo.1, i64 lo.2] 0), (5, .rop [i64 hi.1, i64 hi.2] 0), (7, .rop [i64 ((if clS s = 0 then bestP s false else (0, 0)).1), i64 ((if clS s = 0 then bestP s false else (0, 0)).2)] 0), (8, .rop [i64 ((if clS s = 0 then bestP s true else (0, 0)).1), i64 ((if clS s = 0 then bestP s true else (0, 0)).2)] 0), (9, i64 (clS s))]) (H' := []) ⟨⟨_, rfl, rfl⟩, ⟨_, rfl, rfl⟩, ⟨_, rfl, rfl⟩, ⟨_, rfl, rfl⟩, ⟨_, rfl, rfl⟩, ⟨_, rfl, rfl⟩, trivial⟩ trivial ?_
    refine W_seq rfl ?_
    refine W_reg rfl ?_
    refine Rv rfl rfl rfl (U_load3 rfl rfl rfl rfl rfl) rfl rfl ?_
    refine Rv rfl rfl rfl (U_call rfl rfl (chkR_p s c (by omega)) rfl) rfl rfl ?_
    refine Rv rfl rfl rfl (U_assign rfl) rfl rfl ?_
    refine Re rfl ?_
    refine thenQ_n ?_
    refine W_seq rfl ?_
    refine W_seq rfl ?_
    refine Wjoin ⟨[(3, .rop [i64 s.lo, i64 s.hi, .ros (s.es.flatMap entC) s.es.length c] 0), (4, .rop [i64 lo.1, i64 lo.2] 0), (5, .rop [i64 hi.1, i64 hi.2] 0), (7, .rop [i64 ((if clS s = 0 then bestP s false else (0, 0)).1), i64 ((if clS s = 0 then bestP s false else (0, 0)).2)] 0), (8, .rop [i64 ((if clS s = 0 then bestP s true else (0, 0)).1), i64 ((if clS s = 0 then bestP s true else (0, 0)).2)] 0), (9, i64 (clS s)), (10, i64 (chkS s)), (27, .bool ((decide ((chkS s) = 0)) && (hasB s)))], [], 0, []⟩ ?_ ?_
    · refine W_reg rfl ?_
      refine Rv rfl rfl rfl (U_move rfl) rfl rfl ?_
      refine Rv rfl rfl rfl (U_eql rfl rfl) rfl rfl ?_
      refine Rv rfl rfl rfl (U_move rfl) rfl rfl ?_
      refine Rsplit (t := 24) rfl (fun hg1 => ?_) (fun hg1 => ?_)
      · rw [hg1]
        have hg1' : (chkS s) = 0 := of_decide_eq_true hg1
        refine Rv rfl rfl rfl (U_load3 rfl rfl rfl rfl rfl) rfl rfl ?_
        refine Rv rfl rfl rfl (U_call rfl rfl (hasR_p s c (by first | exact hg | exact good_of (by assumption))) rfl) rfl rfl ?_
        refine Rv rfl rfl rfl (U_pick_t rfl rfl) rfl rfl ?_
        refine Re rfl ?_
        exact joinTo id ⟨eD rfl rfl, eD rfl rfl, eD rfl rfl, eD rfl rfl, eD rfl rfl, eD rfl rfl, eD rfl rfl, eD rfl rfl, trivial⟩ trivial rfl rfl rfl rfl (fun _ _ => rfl)
      · rw [hg1]
        have hg1' : ¬ ((chkS s) = 0) := of_decide_eq_false hg1
        refine Rs rfl rfl rfl rfl rfl ?_
        refine Rs rfl rfl rfl rfl rfl ?_
        refine Rv rfl rfl rfl (U_pick_f rfl rfl) rfl rfl ?_
        refine Re rfl ?_
        exact joinTo id ⟨eD rfl rfl, eD rfl rfl, eD rfl rfl, eD rfl rfl, eD rfl rfl, eD rfl rfl, eD rfl rfl, eD rfl rfl, trivial⟩ trivial rfl rfl rfl rfl (fun _ _ => rfl)
    refine thenQ_n ?_
    refine Wcond rfl rfl (fun hc1 => ?_) (fun hc1 => ?_)
    · refine W_reg rfl ?_
      refine Rv rfl rfl rfl (U_assign rfl) rfl rfl ?_
      refine Re rfl ?_
      refine thenQ_n ?_
      refine W_seq rfl ?_
      refine W_seq rfl ?_
      refine Wjoin ⟨[(3, .rop [i64 s.lo, i64 s.hi, .ros (s.es.flatMap entC) s.es.length c] 0), (7, .rop [i64 ((if clS s = 0 then bestP s false else (0, 0)).1), i64 ((if clS s = 0 then bestP s false else (0, 0)).2)] 0), (8, .rop [i64 ((if clS s = 0 then bestP s true else (0, 0)).1), i64 ((if clS s = 0 then bestP s true else (0, 0)).2)] 0), (10, i64 5), (41, .bool ((decide ((clS s) ≠ 5)) || (decide ((ccS s lo hi) ≠ (ccS s lo hi)))))], [], 0, []⟩ ?_ ?_
      · refine Wdraw rfl (by kernel_rfl) (by kernel_rfl) ?_
        refine Dv rfl rfl rfl (U_move rfl) rfl rfl ?_
        refine Dv rfl rfl rfl (U_move rfl) rfl rfl ?_
        refine Dv rfl rfl rfl (U_neq rfl rfl) rfl rfl ?_
        refine Dv rfl rfl rfl (U_move rfl) rfl rfl ?_
        refine Dsplit (t := 31) rfl (fun hg2 => ?_) (fun hg2 => ?_)
        · rw [hg2]
          have hg2' : (clS s) ≠ 5 := of_decide_eq_true hg2
          refine Ds rfl rfl rfl rfl rfl ?_
          refine Ds rfl rfl rfl rfl rfl ?_
          refine Ds rfl rfl rfl rfl rfl ?_
          refine Ds rfl rfl rfl rfl rfl ?_
          refine Ds rfl rfl rfl rfl rfl ?_
          refine Ds rfl rfl rfl rfl rfl ?_
          refine Ds rfl rfl rfl rfl rfl ?_
          refine Ds rfl rfl rfl rfl rfl ?_
          refine Ds rfl rfl rfl rfl rfl ?_
          refine Dv rfl rfl rfl (U_pick_t rfl rfl) rfl rfl ?_
          refine Dr.nil rfl ?_
          exact joinTo id ⟨eD rfl rfl, eD rfl rfl, eD rfl rfl, eD rfl rfl, eD rfl rfl, trivial⟩ trivial rfl rfl rfl rfl (fun _ _ => rfl)
        · rw [hg2]
          have hg2' : ¬ ((clS s) ≠ 5) := of_decide_eq_false hg2
          refine Dv rfl rfl rfl (U_load3 rfl rfl rfl rfl rfl) rfl rfl ?_
          refine Dv rfl rfl rfl (U_load2 rfl rfl rfl rfl) rfl rfl ?_
          refine Dv rfl rfl rfl (U_load2 rfl rfl rfl rfl) rfl rfl ?_
          refine Dv rfl rfl rfl (U_call rfl rfl (checkClash_p s c (by omega) lo hi) rfl) rfl rfl ?_
          refine Dv rfl rfl rfl (U_load3 rfl rfl rfl rfl rfl) rfl rfl ?_
          refine Dv rfl rfl rfl (U_load2 rfl rfl rfl rfl) rfl rfl ?_
          refine Dv rfl rfl rfl (U_load2 rfl rfl rfl rfl) rfl rfl ?_
          refine Dv rfl rfl rfl (U_call rfl rfl (checkClashR_p s c (by omega) lo hi) rfl) rfl rfl ?_
          refine Dv rfl rfl rfl (U_neq rfl rfl) rfl rfl ?_
          refine Dv rfl rfl rfl (U_pick_f rfl rfl) rfl rfl ?_
          refine Dr.nil rfl ?_
          exact joinTo id ⟨eD rfl rfl, eD rfl rfl, eD rfl rfl, eD rfl rfl, eD rfl rfl, trivial⟩ trivial rfl rfl rfl rfl (fun _ _ => rfl)
      refine thenQ_n ?_
      refine Wcond rfl rfl (fun hc2 => absurd hc2 (by rw [clS_eq]; revert hc1; by_cases h1 : chkS s = 0 <;> by_cases h2 : hasB s = true <;> simp [h1, h2])) (fun hc2 => ?_)
      refine W_skip rfl ?_
      refine thenQ_n ?_
      refine W_seq rfl ?_
      refine W_seq rfl ?_
      refine W_reg rfl ?_
      refine Rv rfl rfl rfl (U_move rfl) rfl rfl ?_
      refine Rv rfl rfl rfl (U_neq rfl rfl) rfl rfl ?_
      refine Re rfl ?_
      refine thenQ_n ?_
      refine WcondP rfl rfl (fun _ => ?_) (fun h => absurd (by decide) h)
      refine W_seq rfl ?_
      refine Wjoin ⟨[(6, .bool ((decide (((if clS s = 0 then bestP s false else (0, 0)).1) = 0 ∧ ((if clS s = 0 then bestP s false else (0, 0)).2) = 0)) && (decide (((if clS s = 0 then bestP s true else (0, 0)).1) = 0 ∧ ((if clS s = 0 then bestP s true else (0, 0)).2) = 0))))], [], 0, []⟩ ?_ ?_
      · refine W_reg rfl ?_
        refine Rv rfl rfl rfl (U_load2 rfl rfl rfl rfl) rfl rfl ?_
        refine Rv rfl rfl rfl (U_build rfl rfl) rfl rfl ?_
        refine Rv rfl rfl rfl (U_eqlA (p := ((if clS s = 0 then bestP s false else (0, 0)).1) = 0 ∧ ((if clS s = 0 then bestP s false else (0, 0)).2) = 0) rfl rfl rfl rfl rfl rfl (by simp)) rfl rfl ?_
        refine Rv rfl rfl rfl (U_move rfl) rfl rfl ?_
        refine Rsplit (t := 47) rfl (fun hg3 => ?_) (fun hg3 => ?_)
        · rw [hg3]
          have hg3' : ((if clS s = 0 then bestP s false else (0, 0)).1) = 0 ∧ ((if clS s = 0 then bestP s false else (0, 0)).2) = 0 := of_decide_eq_true hg3
          refine Rv rfl rfl rfl (U_load2 rfl rfl rfl rfl) rfl rfl ?_
          refine Rv rfl rfl rfl (U_build rfl rfl) rfl rfl ?_
          refine Rv rfl rfl rfl (U_eqlA (p := ((if clS s = 0 then bestP s true else (0, 0)).1) = 0 ∧ ((if clS s = 0 then bestP s true else (0, 0)).2) = 0) rfl rfl rfl rfl rfl rfl (by simp)) rfl rfl ?_
          refine Rv rfl rfl rfl (U_pick_t rfl rfl) rfl rfl ?_
          refine Rv rfl rfl rfl (U_move rfl) rfl rfl ?_
          refine Rsplit (t := 52) rfl (fun hg4 => ?_) (fun hg4 => ?_)
          · rw [hg4]
            have hg4' : ((if clS s = 0 then bestP s true else (0, 0)).1) = 0 ∧ ((if clS s = 0 then bestP s true else (0, 0)).2) = 0 := of_decide_eq_true hg4
            refine Rv rfl rfl rfl (U_call rfl rfl (works_p) rfl) rfl rfl ?_
            refine Rv rfl rfl rfl (U_pick_t rfl rfl) rfl rfl ?_
            refine Rv rfl rfl rfl (U_assign rfl) rfl rfl ?_
            refine Re rfl ?_
            exact joinTo id ⟨eD rfl rfl, trivial⟩ trivial rfl rfl rfl rfl (fun _ _ => rfl)
          · rw [hg4]
            have hg4' : ¬ (((if clS s = 0 then bestP s true else (0, 0)).1) = 0 ∧ ((if clS s = 0 then bestP s true else (0, 0)).2) = 0) := of_decide_eq_false hg4
            refine Rs rfl rfl rfl rfl rfl ?_
            refine Rv rfl rfl rfl (U_pick_f rfl rfl) rfl rfl ?_
            refine Rv rfl rfl rfl (U_assign rfl) rfl rfl ?_
            refine Re rfl ?_
            exact joinTo id ⟨eD rfl rfl, trivial⟩ trivial rfl rfl rfl rfl (fun _ _ => rfl)
        · rw [hg3]
          have hg3' : ¬ (((if clS s = 0 then bestP s false else (0, 0)).1) = 0 ∧ ((if clS s = 0 then bestP s false else (0, 0)).2) = 0) := of_decide_eq_false hg3
          refine Rs rfl rfl rfl rfl rfl ?_
          refine Rs rfl rfl rfl rfl rfl ?_
          refine Rs rfl rfl rfl rfl rfl ?_
          refine Rv rfl rfl rfl (U_pick_f rfl rfl) rfl rfl ?_
          refine Rv rfl rfl rfl (U_move rfl) rfl rfl ?_
          refine Rs rfl rfl rfl rfl rfl ?_
          refine Rv rfl rfl rfl (U_pick_f rfl rfl) rfl rfl ?_
          refine Rv rfl rfl rfl (U_assign rfl) rfl rfl ?_
          refine Re rfl ?_
          exact joinTo id ⟨eD rfl rfl, trivial⟩ trivial rfl rfl rfl rfl (fun _ _ => rfl)
      refine thenQ_n ?_
      refine W_ret rfl ?_
      refine thenQ_r ?_
      exact retL (rlT rfl rl0) (by first | rfl | (simp only [packA]; simp only [if_neg (clN1 hc1)]; simp; done; first | done | rfl) | (simp only [packA]; simp only [if_neg (clN2 hc3)]; simp; done; first | done | rfl) | (simp only [packA]; simp only [if_pos (clN3 hc1 hc3).1]; simp [(clN3 hc1 hc3).2]; done; first | done | rfl)) rfl
    · have hc1' := Bool.eq_false_iff.1 hc1
      refine W_skip rfl ?_
      refine thenQ_n ?_
      refine W_seq rfl ?_
      refine W_seq rfl ?_
      refine Wjoin ⟨[(3, .rop [i64 s.lo, i64 s.hi, .ros (s.es.flatMap entC) s.es.length c] 0), (7, .rop [i64 ((if clS s = 0 then bestP s false else (0, 0)).1), i64 ((if clS s = 0 then bestP s false else (0, 0)).2)] 0), (8, .rop [i64 ((if clS s = 0 then bestP s true else (0, 0)).1), i64 ((if clS s = 0 then bestP s true else (0, 0)).2)] 0), (10, i64 (chkS s)), (41, .bool ((decide ((clS s) ≠ (chkS s))) || (decide ((ccS s lo hi) ≠ (ccS s lo hi)))))], [], 0, []⟩ ?_ ?_
      · refine Wdraw rfl (by kernel_rfl) (by kernel_rfl) ?_
        refine Dv rfl rfl rfl (U_move rfl) rfl rfl ?_
        refine Dv rfl rfl rfl (U_move rfl) rfl rfl ?_
        refine Dv rfl rfl rfl (U_neq rfl rfl) rfl rfl ?_
        refine Dv rfl rfl rfl (U_move rfl) rfl rfl ?_
        refine Dsplit (t := 31) rfl (fun hg5 => ?_) (fun hg5 => ?_)
        · rw [hg5]
          have hg5' : (clS s) ≠ (chkS s) := of_decide_eq_true hg5
          refine Ds rfl rfl rfl rfl rfl ?_
          refine Ds rfl rfl rfl rfl rfl ?_
          refine Ds rfl rfl rfl rfl rfl ?_
          refine Ds rfl rfl rfl rfl rfl ?_
          refine Ds rfl rfl rfl rfl rfl ?_
          refine Ds rfl rfl rfl rfl rfl ?_
          refine Ds rfl rfl rfl rfl rfl ?_
          refine Ds rfl rfl rfl rfl rfl ?_
          refine Ds rfl rfl rfl rfl rfl ?_
          refine Dv rfl rfl rfl (U_pick_t rfl rfl) rfl rfl ?_
          refine Dr.nil rfl ?_
          exact joinTo id ⟨eD rfl rfl, eD rfl rfl, eD rfl rfl, eD rfl rfl, eD rfl rfl, trivial⟩ trivial rfl rfl rfl rfl (fun _ _ => rfl)
        · rw [hg5]
          have hg5' : ¬ ((clS s) ≠ (chkS s)) := of_decide_eq_false hg5
          refine Dv rfl rfl rfl (U_load3 rfl rfl rfl rfl rfl) rfl rfl ?_
          refine Dv rfl rfl rfl (U_load2 rfl rfl rfl rfl) rfl rfl ?_
          refine Dv rfl rfl rfl (U_load2 rfl rfl rfl rfl) rfl rfl ?_
          refine Dv rfl rfl rfl (U_call rfl rfl (checkClash_p s c (by omega) lo hi) rfl) rfl rfl ?_
          refine Dv rfl rfl rfl (U_load3 rfl rfl rfl rfl rfl) rfl rfl ?_
          refine Dv rfl rfl rfl (U_load2 rfl rfl rfl rfl) rfl rfl ?_
          refine Dv rfl rfl rfl (U_load2 rfl rfl rfl rfl) rfl rfl ?_
          refine Dv rfl rfl rfl (U_call rfl rfl (checkClashR_p s c (by omega) lo hi) rfl) rfl rfl ?_
          refine Dv rfl rfl rfl (U_neq rfl rfl) rfl rfl ?_
          refine Dv rfl rfl rfl (U_pick_f rfl rfl) rfl rfl ?_
          refine Dr.nil rfl ?_
          exact joinTo id ⟨eD rfl rfl, eD rfl rfl, eD rfl rfl, eD rfl rfl, eD rfl rfl, trivial⟩ trivial rfl rfl rfl rfl (fun _ _ => rfl)
      refine thenQ_n ?_
      refine Wcond rfl rfl (fun hc2 => absurd hc2 (by rw [clS_eq]; revert hc1; by_cases h1 : chkS s = 0 <;> by_cases h2 : hasB s = true <;> simp [h1, h2])) (fun hc2 => ?_)
      refine W_skip rfl ?_
      refine thenQ_n ?_
      refine W_seq rfl ?_
      refine W_seq rfl ?_
      refine W_reg rfl ?_
      refine Rv rfl rfl rfl (U_move rfl) rfl rfl ?_
      refine Rv rfl rfl rfl (U_neq rfl rfl) rfl rfl ?_
      refine Re rfl ?_
      refine thenQ_n ?_
      refine WcondP rfl rfl (fun hc3 => ?_) (fun hc3 => ?_)
      · refine W_seq rfl ?_
        refine Wjoin ⟨[(6, .bool ((decide (((if clS s = 0 then bestP s false else (0, 0)).1) = 0 ∧ ((if clS s = 0 then bestP s false else (0, 0)).2) = 0)) && (decide (((if clS s = 0 then bestP s true else (0, 0)).1) = 0 ∧ ((if clS s = 0 then bestP s true else (0, 0)).2) = 0))))], [], 0, []⟩ ?_ ?_
        · refine W_reg rfl ?_
          refine Rv rfl rfl rfl (U_load2 rfl rfl rfl rfl) rfl rfl ?_
          refine Rv rfl rfl rfl (U_build rfl rfl) rfl rfl ?_
          refine Rv rfl rfl rfl (U_eqlA (p := ((if clS s = 0 then bestP s false else (0, 0)).1) = 0 ∧ ((if clS s = 0 then bestP s false else (0, 0)).2) = 0) rfl rfl rfl rfl rfl rfl (by simp)) rfl rfl ?_
          refine Rv rfl rfl rfl (U_move rfl) rfl rfl ?_
          refine Rsplit (t := 47) rfl (fun hg6 => ?_) (fun hg6 => ?_)
          · rw [hg6]
            have hg6' : ((if clS s = 0 then bestP s false else (0, 0)).1) = 0 ∧ ((if clS s = 0 then bestP s false else (0, 0)).2) = 0 := of_decide_eq_true hg6
            refine Rv rfl rfl rfl (U_load2 rfl rfl rfl rfl) rfl rfl ?_
            refine Rv rfl rfl rfl (U_build rfl rfl) rfl rfl ?_
            refine Rv rfl rfl rfl (U_eqlA (p := ((if clS s = 0 then bestP s true else (0, 0)).1) = 0 ∧ ((if clS s = 0 then bestP s true else (0, 0)).2) = 0) rfl rfl rfl rfl rfl rfl (by simp)) rfl rfl ?_
            refine Rv rfl rfl rfl (U_pick_t rfl rfl) rfl rfl ?_
            refine Rv rfl rfl rfl (U_move rfl) rfl rfl ?_
            refine Rsplit (t := 52) rfl (fun hg7 => ?_) (fun hg7 => ?_)
            · rw [hg7]
              have hg7' : ((if clS s = 0 then bestP s true else (0, 0)).1) = 0 ∧ ((if clS s = 0 then bestP s true else (0, 0)).2) = 0 := of_decide_eq_true hg7
              refine Rv rfl rfl rfl (U_call rfl rfl (works_p) rfl) rfl rfl ?_
              refine Rv rfl rfl rfl (U_pick_t rfl rfl) rfl rfl ?_
              refine Rv rfl rfl rfl (U_assign rfl) rfl rfl ?_
              refine Re rfl ?_
              exact joinTo id ⟨eD rfl rfl, trivial⟩ trivial rfl rfl rfl rfl (fun _ _ => rfl)
            · rw [hg7]
              have hg7' : ¬ (((if clS s = 0 then bestP s true else (0, 0)).1) = 0 ∧ ((if clS s = 0 then bestP s true else (0, 0)).2) = 0) := of_decide_eq_false hg7
              refine Rs rfl rfl rfl rfl rfl ?_
              refine Rv rfl rfl rfl (U_pick_f rfl rfl) rfl rfl ?_
              refine Rv rfl rfl rfl (U_assign rfl) rfl rfl ?_
              refine Re rfl ?_
              exact joinTo id ⟨eD rfl rfl, trivial⟩ trivial rfl rfl rfl rfl (fun _ _ => rfl)
          · rw [hg6]
            have hg6' : ¬ (((if clS s = 0 then bestP s false else (0, 0)).1) = 0 ∧ ((if clS s = 0 then bestP s false else (0, 0)).2) = 0) := of_decide_eq_false hg6
            refine Rs rfl rfl rfl rfl rfl ?_
            refine Rs rfl rfl rfl rfl rfl ?_
            refine Rs rfl rfl rfl rfl rfl ?_
            refine Rv rfl rfl rfl (U_pick_f rfl rfl) rfl rfl ?_
            refine Rv rfl rfl rfl (U_move rfl) rfl rfl ?_
            refine Rs rfl rfl rfl rfl rfl ?_
            refine Rv rfl rfl rfl (U_pick_f rfl rfl) rfl rfl ?_
            refine Rv rfl rfl rfl (U_assign rfl) rfl rfl ?_
            refine Re rfl ?_
            exact joinTo id ⟨eD rfl rfl, trivial⟩ trivial rfl rfl rfl rfl (fun _ _ => rfl)
        refine thenQ_n ?_
        refine W_ret rfl ?_
        refine thenQ_r ?_
        exact retL (rlT rfl rl0) (by first | rfl | (simp only [packA]; simp only [if_neg (clN1 hc1)]; simp; done; first | done | rfl) | (simp only [packA]; simp only [if_neg (clN2 hc3)]; simp; done; first | done | rfl) | (simp only [packA]; simp only [if_pos (clN3 hc1 hc3).1]; simp [(clN3 hc1 hc3).2]; done; first | done | rfl)) rfl
      · rw [Decidable.not_not] at hc3
        refine W_skip rfl ?_
        refine thenQ_n ?_
        refine W_seq rfl ?_
        refine Wjoin ⟨[(6, .bool (decide ((ccS s (if clS s = 0 then bestP s false else (0, 0)) (if clS s = 0 then bestP s true else (0, 0))) = 0)))], [], 0, []⟩ ?_ ?_
        · refine W_reg rfl ?_
          refine Rv rfl rfl rfl (U_load3 rfl rfl rfl rfl rfl) rfl rfl ?_
          refine Rv rfl rfl rfl (U_load2 rfl rfl rfl rfl) rfl rfl ?_
          refine Rv rfl rfl rfl (U_load2 rfl rfl rfl rfl) rfl rfl ?_
          refine Rv rfl rfl rfl (U_call rfl rfl (checkClashR_p s c (by omega) (if clS s = 0 then bestP s false else (0, 0)) (if clS s = 0 then bestP s true else (0, 0))) rfl) rfl rfl ?_
          refine Rv rfl rfl rfl (U_eql rfl rfl) rfl rfl ?_
          refine Rv rfl rfl rfl (U_move rfl) rfl rfl ?_
          refine Rsplit (t := 60) rfl (fun hg8 => ?_) (fun hg8 => ?_)
          · rw [hg8]
            have hg8' : (ccS s (if clS s = 0 then bestP s false else (0, 0)) (if clS s = 0 then bestP s true else (0, 0))) = 0 := of_decide_eq_true hg8
            refine Rv rfl rfl rfl (U_call rfl rfl (works_p) rfl) rfl rfl ?_
            refine Rv rfl rfl rfl (U_pick_t rfl rfl) rfl rfl ?_
            refine Rv rfl rfl rfl (U_assign rfl) rfl rfl ?_
            refine Re rfl ?_
            exact joinTo id ⟨eD rfl rfl, trivial⟩ trivial rfl rfl rfl rfl (fun _ _ => rfl)
          · rw [hg8]
            have hg8' : ¬ ((ccS s (if clS s = 0 then bestP s false else (0, 0)) (if clS s = 0 then bestP s true else (0, 0))) = 0) := of_decide_eq_false hg8
            refine Rs rfl rfl rfl rfl rfl ?_
            refine Rv rfl rfl rfl (U_pick_f rfl rfl) rfl rfl ?_
            refine Rv rfl rfl rfl (U_assign rfl) rfl rfl ?_
            refine Re rfl ?_
            exact joinTo id ⟨eD rfl rfl, trivial⟩ trivial rfl rfl rfl rfl (fun _ _ => rfl)
        refine thenQ_n ?_
        refine W_ret rfl ?_
        exact retL (rlT rfl rl0) (by first | rfl | (simp only [packA]; simp only [if_neg (clN1 hc1)]; simp; done; first | done | rfl) | (simp only [packA]; simp only [if_neg (clN2 hc3)]; simp; done; first | done | rfl) | (simp only [packA]; simp only [if_pos (clN3 hc1 hc3).1]; simp [(clN3 hc1 hc3).2]; done; first | done | rfl)) rfl
end Go.Proofs.Ytapappdgdiaijaa
end
