import Derived.Test.YtapappdgdiaijaaM4
section
/- Contracts of package drift: what it exports, second part. -/
namespace Go.Proofs.Ytapappdgdiaijaa
open Go.AE
def ccS (s : Star) (lo hi : Int × Int) : Int :=
  if chkS s = 0 then (if (!isPairB s.es.length lo || !isPairB s.es.length hi) = true then 2 else if (!lessQ (bnd s true hi) (bnd s false lo)) = true then 14 else 0) else chkS s
theorem checkClash_p (s : Star) (c : Option Nat) (hl : s.es.length ≤ 1000000) (lo hi : Int × Int) : Pure Try.prog 30 [starA s c, pairA lo, pairA hi] (i64 (ccS s lo hi)) := by
  refine pure_of_body Try.func30 (c := body Try.f30) rfl (by simp [Try.ntmps30]) fun w0 Φ0 => ?_
  refine W_seq rfl ?_
  refine W_reg rfl ?_
  refine Ra rfl rfl rfl (U_box rfl rfl) rfl rfl rfl ?_
  refine Ra rfl rfl rfl (U_box rfl rfl) rfl rfl rfl ?_
  refine Ra rfl rfl rfl (U_box rfl rfl) rfl rfl rfl ?_
  refine Rv rfl rfl rfl (U_assign rfl) rfl rfl ?_
  refine Re rfl ?_
  refine thenQ_n ?_
  refine W_seq rfl ?_
  refine W_reg rfl ?_
  refine Rv rfl rfl rfl (U_load3 rfl rfl rfl rfl rfl) rfl rfl ?_
  refine Rv rfl rfl rfl (U_call rfl rfl (open_p s c hl) rfl) rfl rfl ?_
  refine Rv rfl rfl rfl (U_move rfl) rfl rfl ?_
  refine Rv rfl rfl rfl (U_extract rfl rfl) rfl rfl ?_
  refine Rv rfl rfl rfl (U_extract rfl rfl) rfl rfl ?_
  refine Rv rfl rfl rfl (U_assign rfl) rfl rfl ?_
  refine Rv rfl rfl rfl (U_assign rfl) rfl rfl ?_
  refine Re rfl ?_
  refine thenQ_n ?_
  refine W_seq rfl ?_
  refine W_block rfl ?_
  refine W_seq rfl ?_
  refine W_reg rfl ?_
  refine Rv rfl rfl rfl (U_move rfl) rfl rfl ?_
  first | refine Rv rfl rfl rfl (U_neq rfl rfl) rfl rfl ?_ | refine Rv rfl rfl rfl (U_neqA rfl rfl rfl rfl rfl rfl Iff.rfl) rfl rfl ?_ | refine Rv rfl rfl rfl (U_neqB rfl rfl) rfl rfl ?_
  refine Rv rfl rfl rfl (U_assign rfl) rfl rfl ?_
  refine Re rfl ?_
  refine thenQ_n ?_
  refine WcondP rfl rfl (fun h0 => ?_) (fun h0 => ?_)
  · refine W_seq rfl ?_
    refine W_reg rfl ?_
    refine Rv rfl rfl rfl (U_move rfl) rfl rfl ?_
    refine Rv rfl rfl rfl (U_assign rfl) rfl rfl ?_
    refine Re rfl ?_
    refine thenQ_n ?_
    refine W_ret rfl ?_
    refine blkQ_r ?_
    refine thenQ_r ?_
    first | exact ret1 rfl (by rw [ccS, if_neg h0]) rfl | exact ret1 rfl (by rw [ccS, if_pos h0, if_pos hB]) rfl | exact ret1 rfl (by rw [ccS, if_pos h0, if_neg (by rw [hB]; simp), if_pos hC]) rfl | exact ret1 rfl (by rw [ccS, if_pos h0, if_neg (by rw [hB]; simp), if_neg (by rw [hC]; simp)]) rfl
  · rw [Decidable.not_not] at h0
    rw [if_pos h0]
    refine W_seq rfl ?_
    refine Wjoin ⟨[(18, .bool (!isPairB s.es.length lo || !isPairB s.es.length hi)), (7, cardA s c), (4, .ptr 1 0), (5, .ptr 2 0)], [(1, some (.cells [i64 lo.1, i64 lo.2] 44)), (2, some (.cells [i64 hi.1, i64 hi.2] 44))], 3, []⟩ ?_ ?_
    · refine W_reg rfl ?_
      refine Rv rfl rfl rfl (U_move rfl) rfl rfl ?_
      first | refine Rv rfl rfl rfl (U_indexA (j := 0) rfl rfl rfl (by decide)) rfl rfl ?_ | refine Rv rfl rfl rfl (U_indexAR (j := 0) rfl rfl rfl (by decide)) rfl rfl ?_
      refine Rv rfl rfl rfl (U_load1 rfl rfl rfl) rfl rfl ?_
      first | refine Rv rfl rfl rfl (U_indexA (j := 1) rfl rfl rfl (by decide)) rfl rfl ?_ | refine Rv rfl rfl rfl (U_indexAR (j := 1) rfl rfl rfl (by decide)) rfl rfl ?_
      refine Rv rfl rfl rfl (U_load1 rfl rfl rfl) rfl rfl ?_
      refine Rv rfl rfl rfl (U_call rfl rfl (isPair_p s c lo.1 lo.2) rfl) rfl rfl ?_
      refine Rv rfl rfl rfl (U_not rfl) rfl rfl ?_
      refine Rv rfl rfl rfl (U_move rfl) rfl rfl ?_
      refine Rsplit (t := 26) rfl (fun hg4_7 => ?_) (fun hg4_7 => ?_)
      · first
        | (cases hg4_7; done)
        | rw [hg4_7]
          refine Rs rfl rfl rfl rfl rfl ?_
          refine Rs rfl rfl rfl rfl rfl ?_
          refine Rs rfl rfl rfl rfl rfl ?_
          refine Rs rfl rfl rfl rfl rfl ?_
          refine Rs rfl rfl rfl rfl rfl ?_
          refine Rs rfl rfl rfl rfl rfl ?_
          refine Rs rfl rfl rfl rfl rfl ?_
          first | refine Rv rfl rfl rfl (U_pick_t rfl rfl) rfl rfl ?_ | refine Rv rfl rfl rfl (U_pick_f rfl rfl) rfl rfl ?_ | refine Rv rfl rfl rfl (U_pick_b rfl rfl rfl) rfl rfl ?_
          refine Rv rfl rfl rfl (U_assign rfl) rfl rfl ?_
          refine Re rfl ?_
          exact joined ⟨rfl, rfl, rfl, rfl, trivial⟩ ⟨rfl, rfl, trivial⟩
      · first
        | (cases hg4_7; done)
        | rw [hg4_7]
          refine Rv rfl rfl rfl (U_move rfl) rfl rfl ?_
          first | refine Rv rfl rfl rfl (U_indexA (j := 0) rfl rfl rfl (by decide)) rfl rfl ?_ | refine Rv rfl rfl rfl (U_indexAR (j := 0) rfl rfl rfl (by decide)) rfl rfl ?_
          refine Rv rfl rfl rfl (U_load1 rfl rfl rfl) rfl rfl ?_
          first | refine Rv rfl rfl rfl (U_indexA (j := 1) rfl rfl rfl (by decide)) rfl rfl ?_ | refine Rv rfl rfl rfl (U_indexAR (j := 1) rfl rfl rfl (by decide)) rfl rfl ?_
          refine Rv rfl rfl rfl (U_load1 rfl rfl rfl) rfl rfl ?_
          refine Rv rfl rfl rfl (U_call rfl rfl (isPair_p s c hi.1 hi.2) rfl) rfl rfl ?_
          refine Rv rfl rfl rfl (U_not rfl) rfl rfl ?_
          first | refine Rv rfl rfl rfl (U_pick_t rfl rfl) rfl rfl ?_ | refine Rv rfl rfl rfl (U_pick_f rfl rfl) rfl rfl ?_ | refine Rv rfl rfl rfl (U_pick_b rfl rfl rfl) rfl rfl ?_
          refine Rv rfl rfl rfl (U_assign rfl) rfl rfl ?_
          refine Re rfl ?_
          exact joined ⟨rfl, rfl, rfl, rfl, trivial⟩ ⟨rfl, rfl, trivial⟩
    refine thenQ_n ?_
    refine Wcond rfl rfl (fun hB => ?_) (fun hB => ?_)
    · refine W_seq rfl ?_
      refine W_reg rfl ?_
      refine Rv rfl rfl rfl (U_assign rfl) rfl rfl ?_
      refine Re rfl ?_
      refine thenQ_n ?_
      refine W_ret rfl ?_
      refine blkQ_r ?_
      refine thenQ_r ?_
      first | exact ret1 rfl (by rw [ccS, if_neg h0]) rfl | exact ret1 rfl (by rw [ccS, if_pos h0, if_pos hB]) rfl | exact ret1 rfl (by rw [ccS, if_pos h0, if_neg (by rw [hB]; simp), if_pos hC]) rfl | exact ret1 rfl (by rw [ccS, if_pos h0, if_neg (by rw [hB]; simp), if_neg (by rw [hC]; simp)]) rfl
    · have hB2 : isPairB s.es.length lo = true ∧ isPairB s.es.length hi = true := by simpa using hB
      refine W_seq rfl ?_
      refine Wdraw rfl (by kernel_rfl) (by kernel_rfl) ?_
      refine Dv rfl rfl rfl (U_move rfl) rfl rfl ?_
      first | refine Dv rfl rfl rfl (U_indexA (j := 0) rfl rfl rfl (by decide)) rfl rfl ?_ | refine Dv rfl rfl rfl (U_indexAR (j := 0) rfl rfl rfl (by decide)) rfl rfl ?_
      refine Dv rfl rfl rfl (U_load1 rfl rfl rfl) rfl rfl ?_
      first | refine Dv rfl rfl rfl (U_indexA (j := 1) rfl rfl rfl (by decide)) rfl rfl ?_ | refine Dv rfl rfl rfl (U_indexAR (j := 1) rfl rfl rfl (by decide)) rfl rfl ?_
      refine Dv rfl rfl rfl (U_load1 rfl rfl rfl) rfl rfl ?_
      refine Dv rfl rfl rfl (U_build rfl rfl) rfl rfl ?_
      refine Dv rfl rfl rfl (U_call rfl rfl (bnd_p s c (good_of h0) true hi hB2.2) rfl) rfl rfl ?_
      refine Dv rfl rfl rfl (U_move rfl) rfl rfl ?_
      first | refine Dv rfl rfl rfl (U_indexA (j := 0) rfl rfl rfl (by decide)) rfl rfl ?_ | refine Dv rfl rfl rfl (U_indexAR (j := 0) rfl rfl rfl (by decide)) rfl rfl ?_
      refine Dv rfl rfl rfl (U_load1 rfl rfl rfl) rfl rfl ?_
      first | refine Dv rfl rfl rfl (U_indexA (j := 1) rfl rfl rfl (by decide)) rfl rfl ?_ | refine Dv rfl rfl rfl (U_indexAR (j := 1) rfl rfl rfl (by decide)) rfl rfl ?_
      refine Dv rfl rfl rfl (U_load1 rfl rfl rfl) rfl rfl ?_
      refine Dv rfl rfl rfl (U_build rfl rfl) rfl rfl ?_
      refine Dv rfl rfl rfl (U_call rfl rfl (bnd_p s c (good_of h0) false lo hB2.1) rfl) rfl rfl ?_
      refine Dv rfl rfl rfl (U_call rfl rfl (less_p _ _ (bd_prod (bnd_bd (good_of h0) hB2.2 true) (bnd_bd (good_of h0) hB2.1 false) (by omega)) (bd_prod (bnd_bd (good_of h0) hB2.1 false) (bnd_bd (good_of h0) hB2.2 true) (by omega))) rfl) rfl rfl ?_
      refine Dv rfl rfl rfl (U_not rfl) rfl rfl ?_
      refine Dv rfl rfl rfl (U_assign rfl) rfl rfl ?_
      refine Dr.nil rfl ?_
      refine thenQ_n ?_
      refine Wcond rfl rfl (fun hC => ?_) (fun hC => ?_)
      · refine W_seq rfl ?_
        refine W_reg rfl ?_
        refine Rv rfl rfl rfl (U_assign rfl) rfl rfl ?_
        refine Re rfl ?_
        refine thenQ_n ?_
        refine W_ret rfl ?_
        refine blkQ_r ?_
        refine thenQ_r ?_
        first | exact ret1 rfl (by rw [ccS, if_neg h0]) rfl | exact ret1 rfl (by rw [ccS, if_pos h0, if_pos hB]) rfl | exact ret1 rfl (by rw [ccS, if_pos h0, if_neg (by rw [hB]; simp), if_pos hC]) rfl | exact ret1 rfl (by rw [ccS, if_pos h0, if_neg (by rw [hB]; simp), if_neg (by rw [hC]; simp)]) rfl
      · refine W_skip rfl ?_
        refine blkQ_n ?_
        refine thenQ_n ?_
        refine W_seq rfl ?_
        refine W_reg rfl ?_
        refine Rv rfl rfl rfl (U_assign rfl) rfl rfl ?_
        refine Re rfl ?_
        refine thenQ_n ?_
        refine W_ret rfl ?_
        first | exact ret1 rfl (by rw [ccS, if_neg h0]) rfl | exact ret1 rfl (by rw [ccS, if_pos h0, if_pos hB]) rfl | exact ret1 rfl (by rw [ccS, if_pos h0, if_neg (by rw [hB]; simp), if_pos hC]) rfl | exact ret1 rfl (by rw [ccS, if_pos h0, if_neg (by rw [hB]; simp), if_neg (by rw [hC]; simp)]) rfl
def clS (s : Star) : Int := if chkS s = 0 then (if hasB s = true then 5 else 0) else chkS s
theorem clash_p (s : Star) (c : Option Nat) (hl : s.es.length ≤ 1000000) : Pure Try.prog 28 [starA s c] (.tup [pairA (if clS s = 0 then bestP s false else (0, 0)), pairA (if clS s = 0 then bestP s true else (0, 0)), i64 (clS s)]) := by
  refine pure_of_body Try.func28 (c := body Try.f28) rfl (by simp [Try.ntmps28]) fun w0 Φ0 => ?_
  refine W_seq rfl ?_
  refine W_reg rfl ?_
  refine Ra rfl rfl rfl (U_box rfl rfl) rfl rfl rfl ?_
  refine Ra rfl rfl rfl (U_alloc) rfl rfl rfl ?_
  refine Ra rfl rfl rfl (U_alloc) rfl rfl rfl ?_
  refine Rv rfl rfl rfl (U_assign rfl) rfl rfl ?_
  refine Re rfl ?_
  refine thenQ_n ?_
  refine W_seq rfl ?_
  refine W_reg rfl ?_
  refine Rv rfl rfl rfl (U_load3 rfl rfl rfl rfl rfl) rfl rfl ?_
  refine Rv rfl rfl rfl (U_call rfl rfl (open_p s c hl) rfl) rfl rfl ?_
  refine Rv rfl rfl rfl (U_move rfl) rfl rfl ?_
  refine Rv rfl rfl rfl (U_extract rfl rfl) rfl rfl ?_
  refine Rv rfl rfl rfl (U_extract rfl rfl) rfl rfl ?_
  refine Rv rfl rfl rfl (U_assign rfl) rfl rfl ?_
  refine Rv rfl rfl rfl (U_assign rfl) rfl rfl ?_
  refine Re rfl ?_
  refine thenQ_n ?_
  refine W_seq rfl ?_
  refine W_block rfl ?_
  refine W_seq rfl ?_
  refine W_reg rfl ?_
  refine Rv rfl rfl rfl (U_move rfl) rfl rfl ?_
  first | refine Rv rfl rfl rfl (U_neq rfl rfl) rfl rfl ?_ | refine Rv rfl rfl rfl (U_neqA rfl rfl rfl rfl rfl rfl Iff.rfl) rfl rfl ?_ | refine Rv rfl rfl rfl (U_neqB rfl rfl) rfl rfl ?_
  refine Rv rfl rfl rfl (U_assign rfl) rfl rfl ?_
  refine Re rfl ?_
  refine thenQ_n ?_
  refine WcondP rfl rfl (fun h0 => ?_) (fun h0 => ?_)
  · refine W_seq rfl ?_
    refine W_reg rfl ?_
    refine Rv rfl rfl rfl (U_build rfl rfl) rfl rfl ?_
    refine Rv rfl rfl rfl (U_build rfl rfl) rfl rfl ?_
    refine Rv rfl rfl rfl (U_move rfl) rfl rfl ?_
    first | refine Rn rfl rfl rfl (U_storeAll rfl rfl rfl rfl rfl rfl) rfl ?_ | refine Rn rfl rfl rfl (U_store rfl rfl rfl rfl rfl (by decide) rfl rfl) rfl ?_
    first | refine Rn rfl rfl rfl (U_storeAll rfl rfl rfl rfl rfl rfl) rfl ?_ | refine Rn rfl rfl rfl (U_store rfl rfl rfl rfl rfl (by decide) rfl rfl) rfl ?_
    refine Rv rfl rfl rfl (U_assign rfl) rfl rfl ?_
    refine Re rfl ?_
    refine thenQ_n ?_
    refine W_ret rfl ?_
    refine blkQ_r ?_
    refine thenQ_r ?_
    first
      | (have he : clS s = chkS s := by rw [clS, if_neg h0]
         rw [he, if_neg h0, if_neg h0]; exact retL (rlA rfl rfl rfl (rlA rfl rfl rfl (rlT rfl rl0))) rfl rfl)
      | (have he : clS s = 5 := by rw [clS, if_pos h0, if_pos hB]
         rw [he, if_neg (by omega), if_neg (by omega)]; exact retL (rlA rfl rfl rfl (rlA rfl rfl rfl (rlT rfl rl0))) rfl rfl)
      | (have he : clS s = 0 := by rw [clS, if_pos h0, if_neg (by rw [hB]; simp)]
         rw [he, if_pos rfl, if_pos rfl]; exact retL (rlA rfl rfl rfl (rlA rfl rfl rfl (rlT rfl rl0))) rfl rfl)
  · rw [Decidable.not_not] at h0
    simp only [if_pos h0]
    refine W_seq rfl ?_
    refine W_reg rfl ?_
    refine Rv rfl rfl rfl (U_move rfl) rfl rfl ?_
    refine Rv rfl rfl rfl (U_call rfl rfl (has_p s c (good_of h0)) rfl) rfl rfl ?_
    refine Rv rfl rfl rfl (U_assign rfl) rfl rfl ?_
    refine Re rfl ?_
    refine thenQ_n ?_
    refine Wcond rfl rfl (fun hB => ?_) (fun hB => ?_)
    · refine W_seq rfl ?_
      refine W_reg rfl ?_
      refine Rv rfl rfl rfl (U_build rfl rfl) rfl rfl ?_
      refine Rv rfl rfl rfl (U_build rfl rfl) rfl rfl ?_
      first | refine Rn rfl rfl rfl (U_storeAll rfl rfl rfl rfl rfl rfl) rfl ?_ | refine Rn rfl rfl rfl (U_store rfl rfl rfl rfl rfl (by decide) rfl rfl) rfl ?_
      first | refine Rn rfl rfl rfl (U_storeAll rfl rfl rfl rfl rfl rfl) rfl ?_ | refine Rn rfl rfl rfl (U_store rfl rfl rfl rfl rfl (by decide) rfl rfl) rfl ?_
      refine Rv rfl rfl rfl (U_assign rfl) rfl rfl ?_
      refine Re rfl ?_
      refine thenQ_n ?_
      refine W_ret rfl ?_
      refine blkQ_r ?_
      refine thenQ_r ?_
      first
        | (have he : clS s = chkS s := by rw [clS, if_neg h0]
           rw [he, if_neg h0, if_neg h0]; exact retL (rlA rfl rfl rfl (rlA rfl rfl rfl (rlT rfl rl0))) rfl rfl)
        | (have he : clS s = 5 := by rw [clS, if_pos h0, if_pos hB]
           rw [he, if_neg (by omega), if_neg (by omega)]; exact retL (rlA rfl rfl rfl (rlA rfl rfl rfl (rlT rfl rl0))) rfl rfl)
        | (have he : clS s = 0 := by rw [clS, if_pos h0, if_neg (by rw [hB]; simp)]
           rw [he, if_pos rfl, if_pos rfl]; exact retL (rlA rfl rfl rfl (rlA rfl rfl rfl (rlT rfl rl0))) rfl rfl)
    · refine W_skip rfl ?_
      refine blkQ_n ?_
      refine thenQ_n ?_
      refine W_seq rfl ?_
      refine W_reg rfl ?_
      refine Rv rfl rfl rfl (U_move rfl) rfl rfl ?_
      refine Rv rfl rfl rfl (U_call rfl rfl (best_p s c (good_of h0) false) rfl) rfl rfl ?_
      refine Rv rfl rfl rfl (U_move rfl) rfl rfl ?_
      refine Rv rfl rfl rfl (U_call rfl rfl (best_p s c (good_of h0) true) rfl) rfl rfl ?_
      refine Ra rfl rfl rfl (U_alloc) rfl rfl rfl ?_
      refine Ra rfl rfl rfl (U_alloc) rfl rfl rfl ?_
      first | refine Rn rfl rfl rfl (U_storeAll rfl rfl rfl rfl rfl rfl) rfl ?_ | refine Rn rfl rfl rfl (U_store rfl rfl rfl rfl rfl (by decide) rfl rfl) rfl ?_
      first | refine Rn rfl rfl rfl (U_storeAll rfl rfl rfl rfl rfl rfl) rfl ?_ | refine Rn rfl rfl rfl (U_store rfl rfl rfl rfl rfl (by decide) rfl rfl) rfl ?_
      refine Re rfl ?_
      refine thenQ_n ?_
      refine W_seq rfl ?_
      refine Wfr0 3 rfl rfl ?_
      refine Wfr 4 rfl rfl (T' := [(2, .ptr 1 0), (3, .ptr 2 0), (7, .rop [i64 (bestP s false).1, i64 (bestP s false).2] 0), (8, .rop [i64 (bestP s true).1, i64 (bestP s true).2] 0)]) (H' := [(1, some (.cells [i64 0, i64 0] 44)), (2, some (.cells [i64 0, i64 0] 44))]) ⟨rfl, rfl, rfl, rfl, trivial⟩ ⟨rfl, rfl, trivial⟩ ?_
      refine WdrawL [30, 32, 35, 37] rfl (by kernel_rfl) (by kernel_rfl) ?_
      first | refine Dv rfl rfl rfl (U_fieldAddr rfl) rfl rfl ?_ | refine Dv rfl rfl rfl (U_fieldAddrR rfl) rfl rfl ?_
      refine Dv rfl rfl rfl (U_load1 rfl rfl rfl) rfl rfl ?_
      first | refine Dv rfl rfl rfl (U_fieldAddr rfl) rfl rfl ?_ | refine Dv rfl rfl rfl (U_fieldAddrR rfl) rfl rfl ?_
      refine Dv rfl rfl rfl (U_load1 rfl rfl rfl) rfl rfl ?_
      refine Dv rfl rfl rfl (U_build rfl rfl) rfl rfl ?_
      first | refine Dv rfl rfl rfl (U_fieldAddr rfl) rfl rfl ?_ | refine Dv rfl rfl rfl (U_fieldAddrR rfl) rfl rfl ?_
      refine Dv rfl rfl rfl (U_load1 rfl rfl rfl) rfl rfl ?_
      first | refine Dv rfl rfl rfl (U_fieldAddr rfl) rfl rfl ?_ | refine Dv rfl rfl rfl (U_fieldAddrR rfl) rfl rfl ?_
      refine Dv rfl rfl rfl (U_load1 rfl rfl rfl) rfl rfl ?_
      refine Dv rfl rfl rfl (U_build rfl rfl) rfl rfl ?_
      first | refine Dn_ rfl rfl rfl (U_storeAll rfl rfl rfl rfl rfl rfl) rfl rfl ?_ | refine Dn_ rfl rfl rfl (U_store rfl rfl rfl rfl rfl (by decide) rfl rfl) rfl rfl ?_
      first | refine Dn_ rfl rfl rfl (U_storeAll rfl rfl rfl rfl rfl rfl) rfl rfl ?_ | refine Dn_ rfl rfl rfl (U_store rfl rfl rfl rfl rfl (by decide) rfl rfl) rfl rfl ?_
      refine Dv rfl rfl rfl (U_assign rfl) rfl rfl ?_
      refine Dr.nil rfl ?_
      refine thenQ_n ?_
      refine W_ret rfl ?_
      first
        | (have he : clS s = chkS s := by rw [clS, if_neg h0]
           rw [he, if_neg h0, if_neg h0]; exact retL (rlA rfl rfl rfl (rlA rfl rfl rfl (rlT rfl rl0))) rfl rfl)
        | (have he : clS s = 5 := by rw [clS, if_pos h0, if_pos hB]
           rw [he, if_neg (by omega), if_neg (by omega)]; exact retL (rlA rfl rfl rfl (rlA rfl rfl rfl (rlT rfl rl0))) rfl rfl)
        | (have he : clS s = 0 := by rw [clS, if_pos h0, if_neg (by rw [hB]; simp)]
           rw [he, if_pos rfl, if_pos rfl]; exact retL (rlA rfl rfl rfl (rlA rfl rfl rfl (rlT rfl rl0))) rfl rfl)
abbrev motA (p v : Int × Int) : AV := .agg [i64 p.1, i64 p.2, i64 v.1, i64 v.2]
def agE (p v : Int × Int) (e : Ent) : Bool := inL (e.lo * (p.2 * v.2)) (e.hi * (p.2 * v.2)) [p.1 * v.2 + v.1 * e.y * p.2]
def chkM (s : Star) (p v : Int × Int) : Int :=
  if chkS s = 0 then (if (!inL (-8589934592) 8589934592 [p.1, v.1] || !inL 1 40000 [p.2, v.2]) = true then 3 else if (!inL (s.lo * v.2) (s.hi * v.2) [v.1]) = true then 17 else if s.es.all (agE p v) = true then 0 else 17) else chkS s
theorem checkMotion_p (s : Star) (c : Option Nat) (hl : s.es.length ≤ 1000000) (p v : Int × Int) : Pure Try.prog 21 [starA s c, motA p v] (i64 (chkM s p v)) := by
  refine pure_of_body Try.func21 (c := body Try.f21) rfl (by simp [Try.ntmps21]) fun w0 Φ0 => ?_
  refine W_seq rfl ?_
  refine W_reg rfl ?_
  refine Ra rfl rfl rfl (U_box rfl rfl) rfl rfl rfl ?_
  refine Ra rfl rfl rfl (U_box rfl rfl) rfl rfl rfl ?_
  refine Rv rfl rfl rfl (U_assign rfl) rfl rfl ?_
  refine Re rfl ?_
  refine thenQ_n ?_
  refine W_seq rfl ?_
  refine W_reg rfl ?_
  refine Rv rfl rfl rfl (U_load3 rfl rfl rfl rfl rfl) rfl rfl ?_
  refine Rv rfl rfl rfl (U_call rfl rfl (chk_p s c hl) rfl) rfl rfl ?_
  refine Rv rfl rfl rfl (U_assign rfl) rfl rfl ?_
  refine Re rfl ?_
  refine thenQ_n ?_
  refine W_seq rfl ?_
  refine Wfr 1 rfl rfl (T' := [(2, .ptr 0 0), (3, .rop [i64 p.1, i64 p.2, i64 v.1, i64 v.2] 0), (5, i64 (chkS s))]) (H' := [(0, some (.cells [i64 s.lo, i64 s.hi, entsA s.es c] 26))]) ⟨rfl, rfl, rfl, trivial⟩ ⟨rfl, trivial⟩ ?_
  refine WdrawL [14, 16] rfl (by kernel_rfl) (by kernel_rfl) ?_
  first | refine Dv rfl rfl rfl (U_fieldAddr rfl) rfl rfl ?_ | refine Dv rfl rfl rfl (U_fieldAddrR rfl) rfl rfl ?_
  refine Dv rfl rfl rfl (U_load2 rfl rfl rfl rfl) rfl rfl ?_
  first | refine Dv rfl rfl rfl (U_fieldAddr rfl) rfl rfl ?_ | refine Dv rfl rfl rfl (U_fieldAddrR rfl) rfl rfl ?_
  refine Dv rfl rfl rfl (U_load2 rfl rfl rfl rfl) rfl rfl ?_
  refine Da rfl rfl rfl (U_alloc) rfl rfl rfl rfl ?_
  refine Da rfl rfl rfl (U_alloc) rfl rfl rfl rfl ?_
  first | refine Dn_ rfl rfl rfl (U_storeAll rfl rfl rfl rfl rfl rfl) rfl rfl ?_ | refine Dn_ rfl rfl rfl (U_store rfl rfl rfl rfl rfl (by decide) rfl rfl) rfl rfl ?_
  first | refine Dn_ rfl rfl rfl (U_storeAll rfl rfl rfl rfl rfl rfl) rfl rfl ?_ | refine Dn_ rfl rfl rfl (U_store rfl rfl rfl rfl rfl (by decide) rfl rfl) rfl rfl ?_
  refine Dr.nil rfl ?_
  refine thenQ_n ?_
  refine W_seq rfl ?_
  refine Wfr0 2 rfl rfl ?_
  refine Wfr0 3 rfl rfl ?_
  refine Wfr 0 rfl rfl (T' := [(2, .rop [i64 s.lo, i64 s.hi, entsA s.es c] 0), (5, i64 (chkS s)), (6, .rop [i64 p.1, i64 p.2] 0), (7, .rop [i64 v.1, i64 v.2] 0)]) (H' := []) ⟨rfl, rfl, rfl, rfl, trivial⟩ trivial ?_
  refine Wshrink (nx' := 0) (T' := [(2, .rop [i64 s.lo, i64 s.hi, entsA s.es c] 0), (5, i64 (chkS s)), (6, .rop [i64 p.1, i64 p.2] 0), (7, .rop [i64 v.1, i64 v.2] 0)]) (H' := []) ⟨rfl, rfl, rfl, rfl, trivial⟩ trivial rfl rfl (by simp) rfl ?_
  refine W_block rfl ?_
  refine W_seq rfl ?_
  refine W_reg rfl ?_
  refine Rv rfl rfl rfl (U_move rfl) rfl rfl ?_
  first | refine Rv rfl rfl rfl (U_neq rfl rfl) rfl rfl ?_ | refine Rv rfl rfl rfl (U_neqA rfl rfl rfl rfl rfl rfl Iff.rfl) rfl rfl ?_ | refine Rv rfl rfl rfl (U_neqB rfl rfl) rfl rfl ?_
  refine Rv rfl rfl rfl (U_assign rfl) rfl rfl ?_
  refine Re rfl ?_
  refine thenQ_n ?_
  refine WcondP rfl rfl (fun h0 => ?_) (fun h0 => ?_)
  · refine W_seq rfl ?_
    refine W_reg rfl ?_
    refine Rv rfl rfl rfl (U_move rfl) rfl rfl ?_
    refine Rv rfl rfl rfl (U_assign rfl) rfl rfl ?_
    refine Re rfl ?_
    refine thenQ_n ?_
    refine W_ret rfl ?_
    refine blkQ_r ?_
    refine thenQ_r ?_
    first
      | exact ret1 rfl (by rw [chkM, if_neg h0]) rfl
      | exact ret1 rfl (by rw [chkM, if_pos h0, if_pos hA]) rfl
      | exact ret1 rfl (by rw [chkM, if_pos h0, if_neg (by rw [hA]; simp), if_pos hC]) rfl
      | (have h9 : s.es.all (agE p v) = false := by
           rw [List.all_eq_false]; exact ⟨_, List.getElem_mem hc, by simpa [agE] using hD⟩
         exact ret1 rfl (by rw [chkM, if_pos h0, if_neg (by rw [hA]; simp), if_neg (by rw [hC]; simp), if_neg (by rw [h9]; simp)]) rfl)
      | (have h9 : s.es.all (agE p v) = true := by
           rw [List.all_eq_true]; intro x hx; obtain ⟨j, hj, rfl⟩ := List.getElem_of_mem hx; exact hb j hj (by omega)
         exact ret1 rfl (by rw [chkM, if_pos h0, if_neg (by rw [hA]; simp), if_neg (by rw [hC]; simp), if_pos h9]) rfl)
  · rw [Decidable.not_not] at h0
    have hg := good_of h0
    refine W_seq rfl ?_
    refine Wjoin ⟨[(21, .bool (!inL (-8589934592) 8589934592 [p.1, v.1] || !inL 1 40000 [p.2, v.2])), (2, .rop [i64 s.lo, i64 s.hi, entsA s.es c] 0), (5, i64 (chkS s)), (6, .rop [i64 p.1, i64 p.2] 0), (7, .rop [i64 v.1, i64 v.2] 0)], [], 0, []⟩ ?_ ?_
    · refine W_reg rfl ?_
      first | refine Rv rfl rfl rfl (U_fieldAddr rfl) rfl rfl ?_ | refine Rv rfl rfl rfl (U_fieldAddrR rfl) rfl rfl ?_
      refine Rv rfl rfl rfl (U_load1 rfl rfl rfl) rfl rfl ?_
      first | refine Rv rfl rfl rfl (U_fieldAddr rfl) rfl rfl ?_ | refine Rv rfl rfl rfl (U_fieldAddrR rfl) rfl rfl ?_
      refine Rv rfl rfl rfl (U_load1 rfl rfl rfl) rfl rfl ?_
      refine Ra rfl rfl rfl (U_buildSlice (by rfl) (by decide) rfl rfl) rfl rfl rfl ?_
      refine Rfr 0 rfl rfl (T' := [(26, .ros [i64 p.1, i64 v.1] 2 (some 2)), (2, .rop [i64 s.lo, i64 s.hi, entsA s.es c] 0), (5, i64 (chkS s)), (6, .rop [i64 p.1, i64 p.2] 0), (7, .rop [i64 v.1, i64 v.2] 0)]) (H' := []) ⟨rfl, rfl, rfl, rfl, rfl, trivial⟩ trivial ?_
      refine Rv rfl rfl rfl (U_call rfl rfl (within_p (-8589934592) 8589934592 [p.1, v.1] (some 2) (by simp)) rfl) rfl rfl ?_
      refine Rv rfl rfl rfl (U_not rfl) rfl rfl ?_
      refine Rv rfl rfl rfl (U_move rfl) rfl rfl ?_
      refine Rsplit (t := 29) rfl (fun hg5_7 => ?_) (fun hg5_7 => ?_)
      · first
        | (cases hg5_7; done)
        | rw [hg5_7]
          refine Rs rfl rfl rfl rfl rfl ?_
          refine Rs rfl rfl rfl rfl rfl ?_
          refine Rs rfl rfl rfl rfl rfl ?_
          refine Rs rfl rfl rfl rfl rfl ?_
          refine Rs rfl rfl rfl rfl rfl ?_
          refine Rs rfl rfl rfl rfl rfl ?_
          refine Rs rfl rfl rfl rfl rfl ?_
          first | refine Rv rfl rfl rfl (U_pick_t rfl rfl) rfl rfl ?_ | refine Rv rfl rfl rfl (U_pick_f rfl rfl) rfl rfl ?_ | refine Rv rfl rfl rfl (U_pick_b rfl rfl rfl) rfl rfl ?_
          refine Rv rfl rfl rfl (U_assign rfl) rfl rfl ?_
          refine Re rfl ?_
          exact joinedS ⟨rfl, rfl, rfl, rfl, rfl, trivial⟩ trivial rfl rfl (by simp) rfl
      · first
        | (cases hg5_7; done)
        | rw [hg5_7]
          first | refine Rv rfl rfl rfl (U_fieldAddr rfl) rfl rfl ?_ | refine Rv rfl rfl rfl (U_fieldAddrR rfl) rfl rfl ?_
          refine Rv rfl rfl rfl (U_load1 rfl rfl rfl) rfl rfl ?_
          first | refine Rv rfl rfl rfl (U_fieldAddr rfl) rfl rfl ?_ | refine Rv rfl rfl rfl (U_fieldAddrR rfl) rfl rfl ?_
          refine Rv rfl rfl rfl (U_load1 rfl rfl rfl) rfl rfl ?_
          refine Ra rfl rfl rfl (U_buildSlice (by rfl) (by decide) rfl rfl) rfl rfl rfl ?_
          refine Rfr 1 rfl rfl (T' := [(34, .ros [i64 p.2, i64 v.2] 2 (some 2)), (29, .bool false), (2, .rop [i64 s.lo, i64 s.hi, entsA s.es c] 0), (5, i64 (chkS s)), (6, .rop [i64 p.1, i64 p.2] 0), (7, .rop [i64 v.1, i64 v.2] 0)]) (H' := []) ⟨rfl, rfl, rfl, rfl, rfl, rfl, trivial⟩ trivial ?_
          refine Rv rfl rfl rfl (U_call rfl rfl (within_p 1 40000 [p.2, v.2] (some 2) (by simp)) rfl) rfl rfl ?_
          refine Rv rfl rfl rfl (U_not rfl) rfl rfl ?_
          first | refine Rv rfl rfl rfl (U_pick_t rfl rfl) rfl rfl ?_ | refine Rv rfl rfl rfl (U_pick_f rfl rfl) rfl rfl ?_ | refine Rv rfl rfl rfl (U_pick_b rfl rfl rfl) rfl rfl ?_
          refine Rv rfl rfl rfl (U_assign rfl) rfl rfl ?_
          refine Re rfl ?_
          exact joinedS ⟨rfl, rfl, rfl, rfl, rfl, trivial⟩ trivial rfl rfl (by simp) rfl
    refine thenQ_n ?_
    refine Wcond rfl rfl (fun hA => ?_) (fun hA => ?_)
    · refine W_seq rfl ?_
      refine W_reg rfl ?_
      refine Rv rfl rfl rfl (U_assign rfl) rfl rfl ?_
      refine Re rfl ?_
      refine thenQ_n ?_
      refine W_ret rfl ?_
      refine blkQ_r ?_
      refine thenQ_r ?_
      first
        | exact ret1 rfl (by rw [chkM, if_neg h0]) rfl
        | exact ret1 rfl (by rw [chkM, if_pos h0, if_pos hA]) rfl
        | exact ret1 rfl (by rw [chkM, if_pos h0, if_neg (by rw [hA]; simp), if_pos hC]) rfl
        | (have h9 : s.es.all (agE p v) = false := by
             rw [List.all_eq_false]; exact ⟨_, List.getElem_mem hc, by simpa [agE] using hD⟩
           exact ret1 rfl (by rw [chkM, if_pos h0, if_neg (by rw [hA]; simp), if_neg (by rw [hC]; simp), if_neg (by rw [h9]; simp)]) rfl)
        | (have h9 : s.es.all (agE p v) = true := by
             rw [List.all_eq_true]; intro x hx; obtain ⟨j, hj, rfl⟩ := List.getElem_of_mem hx; exact hb j hj (by omega)
           exact ret1 rfl (by rw [chkM, if_pos h0, if_neg (by rw [hA]; simp), if_neg (by rw [hC]; simp), if_pos h9]) rfl)
    · have hA2 := hA
      simp [inL] at hA2
      have m0 := mulB hg.lo.1 hg.lo.2 (show -40000 ≤ v.2 by omega) (show v.2 ≤ 40000 by omega)
      have m1 := mulB hg.hi.1 hg.hi.2 (show -40000 ≤ v.2 by omega) (show v.2 ≤ 40000 by omega)
      have m2 := mulB (show -40000 ≤ p.2 by omega) (show p.2 ≤ 40000 by omega) (show -40000 ≤ v.2 by omega) (show v.2 ≤ 40000 by omega)
      have m3 := mulB (show -8589934592 ≤ p.1 by omega) (show p.1 ≤ 8589934592 by omega) (show -40000 ≤ v.2 by omega) (show v.2 ≤ 40000 by omega)
      refine W_seq rfl ?_
      refine W_reg rfl ?_
      first | refine Rv rfl rfl rfl (U_fieldAddr rfl) rfl rfl ?_ | refine Rv rfl rfl rfl (U_fieldAddrR rfl) rfl rfl ?_
      first | refine Rv rfl rfl rfl (U_fieldAddr rfl) rfl rfl ?_ | refine Rv rfl rfl rfl (U_fieldAddrR rfl) rfl rfl ?_
      refine Rv rfl rfl rfl (U_load1 rfl rfl rfl) rfl rfl ?_
      first | refine Rv rfl rfl rfl (U_fieldAddr rfl) rfl rfl ?_ | refine Rv rfl rfl rfl (U_fieldAddrR rfl) rfl rfl ?_
      refine Rv rfl rfl rfl (U_load1 rfl rfl rfl) rfl rfl ?_
      refine Rv rfl rfl rfl (U_mul rfl rfl (w64 (by omega) (by omega))) rfl rfl ?_
      first | refine Rv rfl rfl rfl (U_fieldAddr rfl) rfl rfl ?_ | refine Rv rfl rfl rfl (U_fieldAddrR rfl) rfl rfl ?_
      first | refine Rv rfl rfl rfl (U_fieldAddr rfl) rfl rfl ?_ | refine Rv rfl rfl rfl (U_fieldAddrR rfl) rfl rfl ?_
      refine Rv rfl rfl rfl (U_load1 rfl rfl rfl) rfl rfl ?_
      first | refine Rv rfl rfl rfl (U_fieldAddr rfl) rfl rfl ?_ | refine Rv rfl rfl rfl (U_fieldAddrR rfl) rfl rfl ?_
      refine Rv rfl rfl rfl (U_load1 rfl rfl rfl) rfl rfl ?_
      refine Rv rfl rfl rfl (U_mul rfl rfl (w64 (by omega) (by omega))) rfl rfl ?_
      first | refine Rv rfl rfl rfl (U_fieldAddr rfl) rfl rfl ?_ | refine Rv rfl rfl rfl (U_fieldAddrR rfl) rfl rfl ?_
      refine Rv rfl rfl rfl (U_load1 rfl rfl rfl) rfl rfl ?_
      refine Ra rfl rfl rfl (U_buildSlice (by rfl) (by decide) rfl rfl) rfl rfl rfl ?_
      refine Rfr 0 rfl rfl (T' := [(53, .ros [i64 v.1] 1 (some 1)), (44, i64 (s.lo * v.2)), (50, i64 (s.hi * v.2)), (2, .rop [i64 s.lo, i64 s.hi, entsA s.es c] 0), (5, i64 (chkS s)), (6, .rop [i64 p.1, i64 p.2] 0), (7, .rop [i64 v.1, i64 v.2] 0)]) (H' := []) ⟨rfl, rfl, rfl, rfl, rfl, rfl, rfl, trivial⟩ trivial ?_
      refine Rv rfl rfl rfl (U_call rfl rfl (within_p (s.lo * v.2) (s.hi * v.2) [v.1] (some 1) (by simp)) rfl) rfl rfl ?_
      refine Rv rfl rfl rfl (U_not rfl) rfl rfl ?_
      refine Rv rfl rfl rfl (U_assign rfl) rfl rfl ?_
      refine Re rfl ?_
      refine thenQ_n ?_
      refine Wcond rfl rfl (fun hC => ?_) (fun hC => ?_)
      · refine W_seq rfl ?_
        refine W_reg rfl ?_
        refine Rv rfl rfl rfl (U_assign rfl) rfl rfl ?_
        refine Re rfl ?_
        refine thenQ_n ?_
        refine W_ret rfl ?_
        refine blkQ_r ?_
        refine thenQ_r ?_
        first
          | exact ret1 rfl (by rw [chkM, if_neg h0]) rfl
          | exact ret1 rfl (by rw [chkM, if_pos h0, if_pos hA]) rfl
          | exact ret1 rfl (by rw [chkM, if_pos h0, if_neg (by rw [hA]; simp), if_pos hC]) rfl
          | (have h9 : s.es.all (agE p v) = false := by
               rw [List.all_eq_false]; exact ⟨_, List.getElem_mem hc, by simpa [agE] using hD⟩
             exact ret1 rfl (by rw [chkM, if_pos h0, if_neg (by rw [hA]; simp), if_neg (by rw [hC]; simp), if_neg (by rw [h9]; simp)]) rfl)
          | (have h9 : s.es.all (agE p v) = true := by
               rw [List.all_eq_true]; intro x hx; obtain ⟨j, hj, rfl⟩ := List.getElem_of_mem hx; exact hb j hj (by omega)
             exact ret1 rfl (by rw [chkM, if_pos h0, if_neg (by rw [hA]; simp), if_neg (by rw [hC]; simp), if_pos h9]) rfl)
      · refine W_skip rfl ?_
        refine blkQ_n ?_
        refine thenQ_n ?_
        refine W_seq rfl ?_
        refine W_seq rfl ?_
        refine W_reg rfl ?_
        first | refine Rv rfl rfl rfl (U_fieldAddr rfl) rfl rfl ?_ | refine Rv rfl rfl rfl (U_fieldAddrR rfl) rfl rfl ?_
        refine Rv rfl rfl rfl (U_load1 rfl rfl rfl) rfl rfl ?_
        first | refine Rv rfl rfl rfl (U_lenOf rfl len_ros) rfl rfl ?_ | refine Rv rfl rfl rfl (U_lenOf rfl len_slice) rfl rfl ?_ | refine Rv rfl rfl rfl (U_lenOf rfl len_sliceo) rfl rfl ?_ | refine Rv rfl rfl rfl (U_lenOf rfl len_nils) rfl rfl ?_
        refine Rv rfl rfl rfl (U_move rfl) rfl rfl ?_
        refine Re rfl ?_
        refine thenQ_n ?_
        refine Wshrink (nx' := 0) (T' := [(59, i64 ((0 : Nat) : Int)), (58, i64 (s.es.length : Nat)), (57, entsA s.es c), (2, .rop [i64 s.lo, i64 s.hi, entsA s.es c] 0), (5, i64 (chkS s)), (6, .rop [i64 p.1, i64 p.2] 0), (7, .rop [i64 v.1, i64 v.2] 0)]) (H' := []) ⟨rfl, rfl, rfl, rfl, rfl, rfl, rfl, trivial⟩ trivial rfl rfl (by simp) rfl ?_
        refine W_block rfl ?_
        refine Wloop rfl (fun m q => ∃ k : Nat, k ≤ s.es.length ∧ m = s.es.length - k ∧ (∀ j (hj : j < s.es.length), j < k → agE p v s.es[j] = true) ∧ q = ⟨[(59, i64 (k : Nat)), (58, i64 (s.es.length : Nat)), (57, entsA s.es c), (2, .rop [i64 s.lo, i64 s.hi, entsA s.es c] 0), (5, i64 (chkS s)), (6, .rop [i64 p.1, i64 p.2] 0), (7, .rop [i64 v.1, i64 v.2] 0)], [], 0, []⟩) (n := s.es.length) ⟨0, Nat.zero_le _, rfl, fun j _ h => by omega, rfl⟩ ?_
        rintro _ _ ⟨k, hk, rfl, hb, rfl⟩
        refine W_seq rfl ?_
        refine W_reg rfl ?_
        refine Rv rfl rfl rfl (U_lss rfl rfl) rfl rfl ?_
        refine Re rfl ?_
        refine thenQ_n ?_
        refine W_seq rfl ?_
        refine WcondP rfl rfl (fun hc0 => ?_) (fun hc0 => ?_)
        · have hc : k < s.es.length := by omega
          have he := hg.es k hc
          have n1 := mulB he.2.2.1 he.2.2.2.1 m2.1 m2.2
          have n2 := mulB he.2.2.2.2.1 he.2.2.2.2.2 m2.1 m2.2
          have n3 := mulB (show -8589934592 ≤ v.1 by omega) (show v.1 ≤ 8589934592 by omega) (show -200 ≤ s.es[k].y by omega) he.2.1
          have n4 := mulB n3.1 n3.2 (show -40000 ≤ p.2 by omega) (show p.2 ≤ 40000 by omega)
          refine W_skip rfl ?_
          refine thenQ_n ?_
          refine W_seq rfl ?_
          refine W_block rfl ?_
          refine W_seq rfl ?_
          refine W_reg rfl ?_
          refine Rv rfl rfl rfl (U_indexR rfl rfl rfl hc) rfl rfl ?_
          refine Rv rfl rfl rfl (U_load3 rfl rfl (ent0 hc) (ent1 hc) (ent2 hc)) rfl rfl ?_
          refine Ra rfl rfl rfl (U_alloc) rfl rfl rfl ?_
          first | refine Rn rfl rfl rfl (U_storeAll rfl rfl rfl rfl rfl rfl) rfl ?_ | refine Rn rfl rfl rfl (U_store rfl rfl rfl rfl rfl (by decide) rfl rfl) rfl ?_
          refine Re rfl ?_
          refine thenQ_n ?_
          refine W_seq rfl ?_
          refine W_reg rfl ?_
          first | refine Rv rfl rfl rfl (U_fieldAddr rfl) rfl rfl ?_ | refine Rv rfl rfl rfl (U_fieldAddrR rfl) rfl rfl ?_
          refine Rv rfl rfl rfl (U_load1 rfl rfl rfl) rfl rfl ?_
          first | refine Rv rfl rfl rfl (U_fieldAddr rfl) rfl rfl ?_ | refine Rv rfl rfl rfl (U_fieldAddrR rfl) rfl rfl ?_
          refine Rv rfl rfl rfl (U_load1 rfl rfl rfl) rfl rfl ?_
          refine Rv rfl rfl rfl (U_mul rfl rfl (w64 (by omega) (by omega))) rfl rfl ?_
          refine Rv rfl rfl rfl (U_assign rfl) rfl rfl ?_
          refine Re rfl ?_
          refine thenQ_n ?_
          refine W_seq rfl ?_
          refine W_reg rfl ?_
          first | refine Rv rfl rfl rfl (U_fieldAddr rfl) rfl rfl ?_ | refine Rv rfl rfl rfl (U_fieldAddrR rfl) rfl rfl ?_
          first | refine Rv rfl rfl rfl (U_fieldAddr rfl) rfl rfl ?_ | refine Rv rfl rfl rfl (U_fieldAddrR rfl) rfl rfl ?_
          refine Rv rfl rfl rfl (U_load1 rfl rfl rfl) rfl rfl ?_
          refine Rv rfl rfl rfl (U_move rfl) rfl rfl ?_
          refine Rv rfl rfl rfl (U_mul rfl rfl (w64 (by omega) (by omega))) rfl rfl ?_
          first | refine Rv rfl rfl rfl (U_fieldAddr rfl) rfl rfl ?_ | refine Rv rfl rfl rfl (U_fieldAddrR rfl) rfl rfl ?_
          first | refine Rv rfl rfl rfl (U_fieldAddr rfl) rfl rfl ?_ | refine Rv rfl rfl rfl (U_fieldAddrR rfl) rfl rfl ?_
          refine Rv rfl rfl rfl (U_load1 rfl rfl rfl) rfl rfl ?_
          refine Rv rfl rfl rfl (U_move rfl) rfl rfl ?_
          refine Rv rfl rfl rfl (U_mul rfl rfl (w64 (by omega) (by omega))) rfl rfl ?_
          first | refine Rv rfl rfl rfl (U_fieldAddr rfl) rfl rfl ?_ | refine Rv rfl rfl rfl (U_fieldAddrR rfl) rfl rfl ?_
          refine Rv rfl rfl rfl (U_load1 rfl rfl rfl) rfl rfl ?_
          first | refine Rv rfl rfl rfl (U_fieldAddr rfl) rfl rfl ?_ | refine Rv rfl rfl rfl (U_fieldAddrR rfl) rfl rfl ?_
          refine Rv rfl rfl rfl (U_load1 rfl rfl rfl) rfl rfl ?_
          refine Rv rfl rfl rfl (U_mul rfl rfl (w64 (by omega) (by omega))) rfl rfl ?_
          first | refine Rv rfl rfl rfl (U_fieldAddr rfl) rfl rfl ?_ | refine Rv rfl rfl rfl (U_fieldAddrR rfl) rfl rfl ?_
          refine Rv rfl rfl rfl (U_load1 rfl rfl rfl) rfl rfl ?_
          first | refine Rv rfl rfl rfl (U_fieldAddr rfl) rfl rfl ?_ | refine Rv rfl rfl rfl (U_fieldAddrR rfl) rfl rfl ?_
          refine Rv rfl rfl rfl (U_load1 rfl rfl rfl) rfl rfl ?_
          refine Rv rfl rfl rfl (U_mul rfl rfl (w64 (by omega) (by omega))) rfl rfl ?_
          first | refine Rv rfl rfl rfl (U_fieldAddr rfl) rfl rfl ?_ | refine Rv rfl rfl rfl (U_fieldAddrR rfl) rfl rfl ?_
          refine Rv rfl rfl rfl (U_load1 rfl rfl rfl) rfl rfl ?_
          refine Rv rfl rfl rfl (U_mul rfl rfl (w64 (by omega) (by omega))) rfl rfl ?_
          refine Rv rfl rfl rfl (U_add rfl rfl (w64 (by omega) (by omega))) rfl rfl ?_
          refine Ra rfl rfl rfl (U_buildSlice (by rfl) (by decide) rfl rfl) rfl rfl rfl ?_
          refine Rfr 1 rfl rfl (T' := [(92, .ros [i64 (p.1 * v.2 + v.1 * s.es[k].y * p.2)] 1 (some 1)), (72, i64 (s.es[k].lo * (p.2 * v.2))), (77, i64 (s.es[k].hi * (p.2 * v.2))), (59, i64 (k : Nat)), (58, i64 (s.es.length : Nat)), (57, entsA s.es c), (2, .rop [i64 s.lo, i64 s.hi, entsA s.es c] 0), (5, i64 (chkS s)), (6, .rop [i64 p.1, i64 p.2] 0), (7, .rop [i64 v.1, i64 v.2] 0)]) (H' := []) ⟨rfl, rfl, rfl, rfl, rfl, rfl, rfl, rfl, rfl, rfl, trivial⟩ trivial ?_
          refine Rv rfl rfl rfl (U_call rfl rfl (within_p (s.es[k].lo * (p.2 * v.2)) (s.es[k].hi * (p.2 * v.2)) [p.1 * v.2 + v.1 * s.es[k].y * p.2] (some 1) (by simp)) rfl) rfl rfl ?_
          refine Rv rfl rfl rfl (U_not rfl) rfl rfl ?_
          refine Re rfl ?_
          refine thenQ_n ?_
          refine Wcond rfl rfl (fun hD => ?_) (fun hD => ?_)
          · refine W_seq rfl ?_
            refine W_reg rfl ?_
            refine Rv rfl rfl rfl (U_assign rfl) rfl rfl ?_
            refine Re rfl ?_
            refine thenQ_n ?_
            refine W_ret rfl ?_
            refine blkQ_r ?_
            refine thenQ_r ?_
            refine thenQ_r ?_
            refine blkQ_r ?_
            refine thenQ_r ?_
            first
              | exact ret1 rfl (by rw [chkM, if_neg h0]) rfl
              | exact ret1 rfl (by rw [chkM, if_pos h0, if_pos hA]) rfl
              | exact ret1 rfl (by rw [chkM, if_pos h0, if_neg (by rw [hA]; simp), if_pos hC]) rfl
              | (have h9 : s.es.all (agE p v) = false := by
                   rw [List.all_eq_false]; exact ⟨_, List.getElem_mem hc, by simpa [agE] using hD⟩
                 exact ret1 rfl (by rw [chkM, if_pos h0, if_neg (by rw [hA]; simp), if_neg (by rw [hC]; simp), if_neg (by rw [h9]; simp)]) rfl)
              | (have h9 : s.es.all (agE p v) = true := by
                   rw [List.all_eq_true]; intro x hx; obtain ⟨j, hj, rfl⟩ := List.getElem_of_mem hx; exact hb j hj (by omega)
                 exact ret1 rfl (by rw [chkM, if_pos h0, if_neg (by rw [hA]; simp), if_neg (by rw [hC]; simp), if_pos h9]) rfl)
          · refine W_skip rfl ?_
            refine blkQ_n ?_
            refine thenQ_n ?_
            refine W_reg rfl ?_
            refine Rv rfl rfl rfl (U_add rfl rfl (w64e (m := ((k + 1 : Nat) : Int)) (by omega) (by omega) (by omega))) rfl rfl ?_
            refine Rv rfl rfl rfl (U_move rfl) rfl rfl ?_
            refine Re rfl ?_
            refine thenQ_n ?_
            exact againS (nx' := 0) (s.es.length - (k + 1)) (by omega) (T' := [(59, i64 ((k + 1 : Nat) : Int)), (58, i64 (s.es.length : Nat)), (57, entsA s.es c), (2, .rop [i64 s.lo, i64 s.hi, entsA s.es c] 0), (5, i64 (chkS s)), (6, .rop [i64 p.1, i64 p.2] 0), (7, .rop [i64 v.1, i64 v.2] 0)]) (H' := []) ⟨rfl, rfl, rfl, rfl, rfl, rfl, rfl, trivial⟩ trivial rfl rfl (by simp) rfl (⟨k + 1, hc, rfl, fun j hj h => by rcases Nat.lt_succ_iff_lt_or_eq.1 h with h | rfl; exact hb j hj h; simpa [agE] using hD, rfl⟩)
        · refine W_exit rfl ?_
          refine thenQ_x ?_
          refine thenQ_x ?_
          refine blkQ_x rfl ?_
          refine thenQ_n ?_
          refine W_seq rfl ?_
          refine W_reg rfl ?_
          refine Rv rfl rfl rfl (U_assign rfl) rfl rfl ?_
          refine Re rfl ?_
          refine thenQ_n ?_
          refine W_ret rfl ?_
          first
            | exact ret1 rfl (by rw [chkM, if_neg h0]) rfl
            | exact ret1 rfl (by rw [chkM, if_pos h0, if_pos hA]) rfl
            | exact ret1 rfl (by rw [chkM, if_pos h0, if_neg (by rw [hA]; simp), if_pos hC]) rfl
            | (have h9 : s.es.all (agE p v) = false := by
                 rw [List.all_eq_false]; exact ⟨_, List.getElem_mem hc, by simpa [agE] using hD⟩
               exact ret1 rfl (by rw [chkM, if_pos h0, if_neg (by rw [hA]; simp), if_neg (by rw [hC]; simp), if_neg (by rw [h9]; simp)]) rfl)
            | (have h9 : s.es.all (agE p v) = true := by
                 rw [List.all_eq_true]; intro x hx; obtain ⟨j, hj, rfl⟩ := List.getElem_of_mem hx; exact hb j hj (by omega)
               exact ret1 rfl (by rw [chkM, if_pos h0, if_neg (by rw [hA]; simp), if_neg (by rw [hC]; simp), if_pos h9]) rfl)
end Go.Proofs.Ytapappdgdiaijaa
end

section
/- Contracts of package drift: a star turned round. -/
namespace Go.Proofs.Ytapappdgdiaijaa
set_option maxRecDepth 20000
open Go.AE
theorem ends_p (s : Star) (c : Option Nat) (i : Nat) (h : i < s.es.length) : Pure Try.prog 105 [cardA s c, i64 (i : Nat)] (.agg [i64 s.es[i].lo, i64 s.es[i].hi]) := by
  refine pure_of_body Try.func105 (c := body Try.f105) rfl (by simp [Try.ntmps105]) fun w0 Φ0 => ?_
  refine W_seq rfl ?_
  refine W_reg rfl ?_
  refine Ra rfl rfl rfl (U_alloc) rfl rfl rfl ?_
  refine Re rfl ?_
  refine thenQ_n ?_
  refine W_seq rfl ?_
  refine Wdraw rfl (by kernel_rfl) (by kernel_rfl) ?_
  refine Dv rfl rfl rfl (U_move rfl) rfl rfl ?_
  first | refine Dv rfl rfl rfl (U_nilCheckR rfl) rfl rfl ?_ | refine Dv rfl rfl rfl (U_nilCheck rfl) rfl rfl ?_ | refine Dv rfl rfl rfl (U_nilCheckF rfl) rfl rfl ?_
  first | refine Dv rfl rfl rfl (U_fieldAddr rfl) rfl rfl ?_ | refine Dv rfl rfl rfl (U_fieldAddrR rfl) rfl rfl ?_
  first | refine Dv rfl rfl rfl (U_fieldAddr rfl) rfl rfl ?_ | refine Dv rfl rfl rfl (U_fieldAddrR rfl) rfl rfl ?_
  refine Dv rfl rfl rfl (U_load1 rfl rfl rfl) rfl rfl ?_
  refine Dv rfl rfl rfl (U_move rfl) rfl rfl ?_
  refine Dv rfl rfl rfl (U_indexR rfl rfl rfl h) rfl rfl ?_
  first | refine Dv rfl rfl rfl (U_fieldAddr rfl) rfl rfl ?_ | refine Dv rfl rfl rfl (U_fieldAddrR rfl) rfl rfl ?_
  first | refine Dv rfl rfl rfl (U_fieldAddr rfl) rfl rfl ?_ | refine Dv rfl rfl rfl (U_fieldAddrR rfl) rfl rfl ?_
  refine Dv rfl rfl rfl (U_load1 rfl rfl (ent1 h)) rfl rfl ?_
  refine Dv rfl rfl rfl (U_move rfl) rfl rfl ?_
  first | refine Dv rfl rfl rfl (U_nilCheckR rfl) rfl rfl ?_ | refine Dv rfl rfl rfl (U_nilCheck rfl) rfl rfl ?_ | refine Dv rfl rfl rfl (U_nilCheckF rfl) rfl rfl ?_
  first | refine Dv rfl rfl rfl (U_fieldAddr rfl) rfl rfl ?_ | refine Dv rfl rfl rfl (U_fieldAddrR rfl) rfl rfl ?_
  first | refine Dv rfl rfl rfl (U_fieldAddr rfl) rfl rfl ?_ | refine Dv rfl rfl rfl (U_fieldAddrR rfl) rfl rfl ?_
  refine Dv rfl rfl rfl (U_load1 rfl rfl rfl) rfl rfl ?_
  refine Dv rfl rfl rfl (U_move rfl) rfl rfl ?_
  refine Dv rfl rfl rfl (U_indexR rfl rfl rfl h) rfl rfl ?_
  first | refine Dv rfl rfl rfl (U_fieldAddr rfl) rfl rfl ?_ | refine Dv rfl rfl rfl (U_fieldAddrR rfl) rfl rfl ?_
  first | refine Dv rfl rfl rfl (U_fieldAddr rfl) rfl rfl ?_ | refine Dv rfl rfl rfl (U_fieldAddrR rfl) rfl rfl ?_
  refine Dv rfl rfl rfl (U_load1 rfl rfl (ent2 h)) rfl rfl ?_
  refine Dv rfl rfl rfl (U_build rfl rfl) rfl rfl ?_
  first | refine Dn_ rfl rfl rfl (U_storeAll rfl rfl rfl rfl rfl rfl) rfl rfl ?_ | refine Dn_ rfl rfl rfl (U_store rfl rfl rfl rfl rfl (by decide) rfl rfl) rfl rfl ?_
  refine Dr.nil rfl ?_
  refine thenQ_n ?_
  refine W_ret rfl ?_
  exact retC rfl rfl rfl rfl rfl
def turnE (e : Ent) : Ent := ⟨e.y, -e.hi, -e.lo⟩
/-- A star, with all places turned round. -/
def turnS (s : Star) : Star := ⟨-s.hi, -s.lo, s.es.map turnE⟩
theorem turn_good {s : Star} (h : Good s) : Good (turnS s) := by
  refine ⟨by have := h.hi; simp only [turnS]; omega, by have := h.lo; simp only [turnS]; omega, fun i hi => ?_, fun i k hik hk => ?_, by have := h.len; simpa [turnS] using this⟩
  · have hi' : i < s.es.length := by simpa [turnS] using hi
    have := h.es i hi'
    simp only [turnS, List.getElem_map, turnE]; omega
  · have hk' : k < s.es.length := by simpa [turnS] using hk
    have := h.inc i k hik hk'
    simpa [turnS, turnE] using this
theorem take_succ' {α : Type} {l : List α} {k : Nat} (h : k < l.length) : l.take (k + 1) = l.take k ++ [l[k]] := by rw [List.take_add_one, List.getElem?_eq_getElem h]; rfl
theorem ents_len (l : List Ent) : (l.flatMap entC).length = l.length * 3 := by
  induction l with
  | nil => rfl
  | cons e l ih => simp only [List.flatMap_cons, List.length_append, ih, List.length_cons]; simp [entC]; omega
theorem turned_p (s : Star) (c : Option Nat) (hg : Good s) : Pure Try.prog 86 [cardA s c] (cardA (turnS s) none) := by
  have hlen := hg.len
  refine pure_of_body Try.func86 (c := body Try.f86) rfl (by simp [Try.ntmps86]) fun w0 Φ0 => ?_
  refine W_seq rfl ?_
  refine W_reg rfl ?_
  refine Rv rfl rfl rfl (U_assign rfl) rfl rfl ?_
  refine Re rfl ?_
  refine thenQ_n ?_
  refine W_seq rfl ?_
  refine Wdraw rfl (by kernel_rfl) (by kernel_rfl) ?_
  refine Dv rfl rfl rfl (U_move rfl) rfl rfl ?_
  first | refine Dv rfl rfl rfl (U_nilCheckR rfl) rfl rfl ?_ | refine Dv rfl rfl rfl (U_nilCheck rfl) rfl rfl ?_ | refine Dv rfl rfl rfl (U_nilCheckF rfl) rfl rfl ?_
  first | refine Dv rfl rfl rfl (U_fieldAddr rfl) rfl rfl ?_ | refine Dv rfl rfl rfl (U_fieldAddrR rfl) rfl rfl ?_
  first | refine Dv rfl rfl rfl (U_fieldAddr rfl) rfl rfl ?_ | refine Dv rfl rfl rfl (U_fieldAddrR rfl) rfl rfl ?_
  first | refine Dv rfl rfl rfl (U_fieldAddr rfl) rfl rfl ?_ | refine Dv rfl rfl rfl (U_fieldAddrR rfl) rfl rfl ?_
  refine Dv rfl rfl rfl (U_load1 rfl rfl rfl) rfl rfl ?_
  refine Dv rfl rfl rfl (U_neg rfl (w64 (by have := hg.hi; omega) (by have := hg.hi; omega))) rfl rfl ?_
  refine Dv rfl rfl rfl (U_move rfl) rfl rfl ?_
  first | refine Dv rfl rfl rfl (U_nilCheckR rfl) rfl rfl ?_ | refine Dv rfl rfl rfl (U_nilCheck rfl) rfl rfl ?_ | refine Dv rfl rfl rfl (U_nilCheckF rfl) rfl rfl ?_
  first | refine Dv rfl rfl rfl (U_fieldAddr rfl) rfl rfl ?_ | refine Dv rfl rfl rfl (U_fieldAddrR rfl) rfl rfl ?_
  first | refine Dv rfl rfl rfl (U_fieldAddr rfl) rfl rfl ?_ | refine Dv rfl rfl rfl (U_fieldAddrR rfl) rfl rfl ?_
  first | refine Dv rfl rfl rfl (U_fieldAddr rfl) rfl rfl ?_ | refine Dv rfl rfl rfl (U_fieldAddrR rfl) rfl rfl ?_
  refine Dv rfl rfl rfl (U_load1 rfl rfl rfl) rfl rfl ?_
  refine Dv rfl rfl rfl (U_neg rfl (w64 (by have := hg.lo; omega) (by have := hg.lo; omega))) rfl rfl ?_
  refine Dv rfl rfl rfl (U_build rfl rfl) rfl rfl ?_
  refine Dv rfl rfl rfl (U_build rfl rfl) rfl rfl ?_
  refine Dv rfl rfl rfl (U_build rfl rfl) rfl rfl ?_
  refine Da rfl rfl rfl (U_box rfl rfl) rfl rfl rfl rfl ?_
  refine Dv rfl rfl rfl (U_assign rfl) rfl rfl ?_
  refine Dr.nil rfl ?_
  refine thenQ_n ?_
  refine W_seq rfl ?_
  refine W_reg rfl ?_
  refine Rv rfl rfl rfl (U_move rfl) rfl rfl ?_
  refine Rv rfl rfl rfl (U_makeFunc rfl rfl) rfl rfl ?_
  refine Rv rfl rfl rfl (U_assign rfl) rfl rfl ?_
  refine Re rfl ?_
  refine thenQ_n ?_
  refine W_seq rfl ?_
  refine W_seq rfl ?_
  refine W_reg rfl ?_
  refine Rv rfl rfl rfl (U_move rfl) rfl rfl ?_
  first | refine Rv rfl rfl rfl (U_nilCheckR rfl) rfl rfl ?_ | refine Rv rfl rfl rfl (U_nilCheck rfl) rfl rfl ?_ | refine Rv rfl rfl rfl (U_nilCheckF rfl) rfl rfl ?_
  first | refine Rv rfl rfl rfl (U_fieldAddr rfl) rfl rfl ?_ | refine Rv rfl rfl rfl (U_fieldAddrR rfl) rfl rfl ?_
  first | refine Rv rfl rfl rfl (U_fieldAddr rfl) rfl rfl ?_ | refine Rv rfl rfl rfl (U_fieldAddrR rfl) rfl rfl ?_
  refine Rv rfl rfl rfl (U_load1 rfl rfl rfl) rfl rfl ?_
  first | refine Rv rfl rfl rfl (U_lenOf rfl len_ros) rfl rfl ?_ | refine Rv rfl rfl rfl (U_lenOf rfl len_slice) rfl rfl ?_ | refine Rv rfl rfl rfl (U_lenOf rfl len_sliceo) rfl rfl ?_ | refine Rv rfl rfl rfl (U_lenOf rfl len_nils) rfl rfl ?_
  refine Rv rfl rfl rfl (U_move rfl) rfl rfl ?_
  refine Re rfl ?_
  refine thenQ_n ?_
  refine Wshrink (nx' := 2) (T' := [(34, i64 ((0 : Nat) : Int)), (33, i64 (s.es.length : Nat)), (32, entsA s.es c), (4, .fn 105 [cardA s c] []), (3, .ptr 0 0), (0, cardA s c)]) (H' := [(1, outB (((s.es.take 0).map turnE).flatMap entC) 76 0), (0, some (.cells [i64 (-s.hi), i64 (-s.lo), outV 1 3 0] 132))]) ⟨rfl, rfl, rfl, rfl, rfl, rfl, trivial⟩ ⟨rfl, rfl, trivial⟩ rfl rfl (by simp) rfl ?_
  refine W_block rfl ?_
  refine Wloop rfl (fun m q => ∃ k : Nat, k ≤ s.es.length ∧ m = s.es.length - k ∧ q = ⟨[(34, i64 (k : Nat)), (33, i64 (s.es.length : Nat)), (32, entsA s.es c), (4, .fn 105 [cardA s c] []), (3, .ptr 0 0), (0, cardA s c)], [(1, outB (((s.es.take k).map turnE).flatMap entC) 76 (k)), (0, some (.cells [i64 (-s.hi), i64 (-s.lo), outV 1 3 (k)] 132))], 2, []⟩) (n := s.es.length) ⟨0, Nat.zero_le _, rfl, rfl⟩ ?_
  rintro _ _ ⟨k, hk, rfl, rfl⟩
  refine W_seq rfl ?_
  refine W_reg rfl ?_
  refine Rv rfl rfl rfl (U_lss rfl rfl) rfl rfl ?_
  refine Re rfl ?_
  refine thenQ_n ?_
  refine W_seq rfl ?_
  refine WcondP rfl rfl (fun hc0 => ?_) (fun hc0 => ?_)
  · have hc : k < s.es.length := by omega
    have he := hg.es k hc
    refine W_skip rfl ?_
    refine thenQ_n ?_
    refine W_seq rfl ?_
    refine W_block rfl ?_
    refine W_seq rfl ?_
    refine W_reg rfl ?_
    refine Rv rfl rfl rfl (U_move rfl) rfl rfl ?_
    refine Rv rfl rfl rfl (U_indexR rfl rfl rfl hc) rfl rfl ?_
    refine Rv rfl rfl rfl (U_load3 rfl rfl (ent0 hc) (ent1 hc) (ent2 hc)) rfl rfl ?_
    refine Ra rfl rfl rfl (U_alloc) rfl rfl rfl ?_
    refine Rv rfl rfl rfl (U_assign rfl) rfl rfl ?_
    first | refine Rn rfl rfl rfl (U_storeAll rfl rfl rfl rfl rfl rfl) rfl ?_ | refine Rn rfl rfl rfl (U_store rfl rfl rfl rfl rfl (by decide) rfl rfl) rfl ?_
    refine Re rfl ?_
    refine thenQ_n ?_
    refine W_seq rfl ?_
    refine W_reg rfl ?_
    refine Rv rfl rfl rfl (U_move rfl) rfl rfl ?_
    refine Rv rfl rfl rfl (U_move rfl) rfl rfl ?_
    refine Rv rfl rfl rfl (U_call rfl rfl (ends_p s c k hc) rfl) rfl rfl ?_
    refine Ra rfl rfl rfl (U_alloc) rfl rfl rfl ?_
    first | refine Rn rfl rfl rfl (U_storeAll rfl rfl rfl rfl rfl rfl) rfl ?_ | refine Rn rfl rfl rfl (U_store rfl rfl rfl rfl rfl (by decide) rfl rfl) rfl ?_
    refine Re rfl ?_
    refine thenQ_n ?_
    refine Wdraw rfl (by kernel_rfl) (by kernel_rfl) ?_
    refine Dv rfl rfl rfl (U_move rfl) rfl rfl ?_
    refine Dv rfl rfl rfl (U_move rfl) rfl rfl ?_
    first | refine Dv rfl rfl rfl (U_nilCheckR rfl) rfl rfl ?_ | refine Dv rfl rfl rfl (U_nilCheck rfl) rfl rfl ?_ | refine Dv rfl rfl rfl (U_nilCheckF rfl) rfl rfl ?_
    first | refine Dv rfl rfl rfl (U_fieldAddr rfl) rfl rfl ?_ | refine Dv rfl rfl rfl (U_fieldAddrR rfl) rfl rfl ?_
    first | refine Dv rfl rfl rfl (U_fieldAddr rfl) rfl rfl ?_ | refine Dv rfl rfl rfl (U_fieldAddrR rfl) rfl rfl ?_
    refine Dv rfl rfl rfl (U_load1 rfl rfl rfl) rfl rfl ?_
    refine Dv rfl rfl rfl (U_move rfl) rfl rfl ?_
    refine Dv rfl rfl rfl (U_move rfl) rfl rfl ?_
    refine Dv rfl rfl rfl (U_sliceOut3 rfl rfl rfl) rfl rfl ?_
    first | refine Dv rfl rfl rfl (U_fieldAddr rfl) rfl rfl ?_ | refine Dv rfl rfl rfl (U_fieldAddrR rfl) rfl rfl ?_
    refine Dv rfl rfl rfl (U_load1 rfl rfl rfl) rfl rfl ?_
    first | refine Dv rfl rfl rfl (U_indexA (j := 1) rfl rfl rfl (by decide)) rfl rfl ?_ | refine Dv rfl rfl rfl (U_indexAR (j := 1) rfl rfl rfl (by decide)) rfl rfl ?_
    refine Dv rfl rfl rfl (U_load1 rfl rfl rfl) rfl rfl ?_
    refine Dv rfl rfl rfl (U_neg rfl (w64 (by omega) (by omega))) rfl rfl ?_
    first | refine Dv rfl rfl rfl (U_indexA (j := 0) rfl rfl rfl (by decide)) rfl rfl ?_ | refine Dv rfl rfl rfl (U_indexAR (j := 0) rfl rfl rfl (by decide)) rfl rfl ?_
    refine Dv rfl rfl rfl (U_load1 rfl rfl rfl) rfl rfl ?_
    refine Dv rfl rfl rfl (U_neg rfl (w64 (by omega) (by omega))) rfl rfl ?_
    refine Dv rfl rfl rfl (U_build rfl rfl) rfl rfl ?_
    refine Dv rfl rfl rfl (U_build rfl rfl) rfl rfl ?_
    refine Da rfl rfl rfl (U_buildSlice (by rfl) (by decide) rfl rfl) rfl rfl rfl rfl ?_
    refine Da rfl rfl rfl (U_appendOutF (m := 0) rfl rfl rfl (by rw [ents_len]; simp; omega) rfl (by omega) rfl) rfl rfl rfl rfl ?_
    first | refine Dv rfl rfl rfl (U_nilCheckR rfl) rfl rfl ?_ | refine Dv rfl rfl rfl (U_nilCheck rfl) rfl rfl ?_ | refine Dv rfl rfl rfl (U_nilCheckF rfl) rfl rfl ?_
    first | refine Dv rfl rfl rfl (U_fieldAddr rfl) rfl rfl ?_ | refine Dv rfl rfl rfl (U_fieldAddrR rfl) rfl rfl ?_
    first | refine Dv rfl rfl rfl (U_fieldAddr rfl) rfl rfl ?_ | refine Dv rfl rfl rfl (U_fieldAddrR rfl) rfl rfl ?_
    refine Dn_ rfl rfl rfl (U_store (b := 0) (o := 2) (vs := [outV 5 3 (k + 1)]) (cs := [i64 (-s.hi), i64 (-s.lo), outV 1 3 k]) (cs' := [i64 (-s.hi), i64 (-s.lo), outV 5 3 (k + 1)]) rfl rfl rfl rfl rfl (Nat.le_refl _) rfl rfl) rfl rfl ?_
    refine Dr.nil rfl ?_
    refine blkQ_n ?_
    refine thenQ_n ?_
    refine W_reg rfl ?_
    refine Rv rfl rfl rfl (U_add rfl rfl (w64e (m := ((k + 1 : Nat) : Int)) (by omega) (by omega) (by omega))) rfl rfl ?_
    refine Rv rfl rfl rfl (U_move rfl) rfl rfl ?_
    refine Re rfl ?_
    refine thenQ_n ?_
    have hcs : ((s.es.take (k + 1)).map turnE).flatMap entC = ((s.es.take k).map turnE).flatMap entC ++ [i64 s.es[k].y, i64 (-s.es[k].hi), i64 (-s.es[k].lo)] := by rw [take_succ' hc, List.map_append, List.flatMap_append]; rfl
    refine againR (nx' := 2) (mapN [0, 5]) (s.es.length - (k + 1)) (by omega) (T' := [(34, i64 ((k + 1 : Nat) : Int)), (33, i64 (s.es.length : Nat)), (32, entsA s.es c), (4, .fn 105 [cardA s c] []), (3, .ptr 0 0), (0, cardA s c)]) (H' := [(1, outB (((s.es.take (k + 1)).map turnE).flatMap entC) 76 ((k + 1))), (0, some (.cells [i64 (-s.hi), i64 (-s.lo), outV 1 3 ((k + 1))] 132))]) ⟨rfl, rfl, rfl, rfl, rfl, rfl, trivial⟩ (renSub_out (entsD _) (by rw [hcs]; rfl) ⟨rfl, trivial⟩) rfl (belb_out (entsD _) rfl rfl) rfl rfl (by simp) rfl (fun _ h => absurd h (Nat.not_lt_zero _)) ⟨k + 1, hc, rfl, rfl⟩
  · refine W_exit rfl ?_
    refine thenQ_x ?_
    refine thenQ_x ?_
    refine blkQ_x rfl ?_
    refine thenQ_n ?_
    refine W_seq rfl ?_
    refine W_reg rfl ?_
    refine Rv rfl rfl rfl (U_move rfl) rfl rfl ?_
    refine Rv rfl rfl rfl (U_assign rfl) rfl rfl ?_
    refine Re rfl ?_
    refine thenQ_n ?_
    obtain rfl : k = s.es.length := by omega
    refine W_gh (s' := ⟨[(2, .ptr 0 0)], [(0, some (.cells [i64 (-s.hi), i64 (-s.lo), .ros (((s.es.take s.es.length).map turnE).flatMap entC) s.es.length none] 132))], 2, []⟩) (Gh_outH (b := 1) (b2 := 0) (cs := ((s.es.take s.es.length).map turnE).flatMap entC) (pre := [i64 (-s.hi), i64 (-s.lo)]) (post := []) rfl (entsD _) rfl (by decide) (fun _ _ => rfl) (fun _ _ => rfl) ⟨rfl, trivial⟩ (fun _ => ⟨rfl, trivial⟩) (fun m q h hne => by rw [gt_cons, if_neg (fun e => hne e.symm)] at h; cases h) rfl) ?_
    refine Wfr 0 rfl rfl (T' := [(2, .rop [i64 (-s.hi), i64 (-s.lo), .ros (((s.es.take s.es.length).map turnE).flatMap entC) s.es.length none] 0)]) (H' := []) ⟨rfl, trivial⟩ trivial ?_
    refine W_ret rfl ?_
    refine ret1 rfl ?_ rfl
    simp only [turnS, List.take_length, cardA, entsA, List.length_map]
end Go.Proofs.Ytapappdgdiaijaa
end

section
/- Contracts of package drift: a star without some entries. -/
namespace Go.Proofs.Ytapappdgdiaijaa
set_option maxRecDepth 20000
open Go.AE
theorem intsD (l : List Int) : dataL (l.map i64) := dataL_map fun _ _ => rfl
/-- The marks, as they lie in memory. -/
abbrev marksH (ms : List Int) : AH := [(1, some (.cells (ms.map i64) 3)), (0, some (.cells [.slice 1 0 ms.length ms.length] 56))]
theorem marked_p (ms : List Int) (i : Nat) (h : i < ms.length) : MutP Try.prog 116 [i64 (i : Nat), .ptr 0 0] (marksH ms) 2 (.bool (decide (0 < ms[i]))) (marksH ms) 2 := by
  refine mut_of_body Try.func116 (c := body Try.f116) rfl (Nat.le_refl _) (by simp [Try.ntmps116]) fun w0 Φ0 ρ0 => ?_
  refine W_seq rfl ?_
  refine W_reg rfl ?_
  refine Rv rfl rfl rfl (U_assign rfl) rfl rfl ?_
  refine Re rfl ?_
  refine thenQ_n ?_
  refine W_seq rfl ?_
  refine W_reg rfl ?_
  refine Rv rfl rfl rfl (U_load1 rfl rfl rfl) rfl rfl ?_
  refine Rv rfl rfl rfl (U_move rfl) rfl rfl ?_
  refine Rv rfl rfl rfl (U_indexS (j := i) rfl rfl rfl h) rfl rfl ?_
  refine Rv rfl rfl rfl (U_load1 rfl rfl (show (ms.map i64)[0 + i * 1]? = some (i64 ms[i]) by simp [h])) rfl rfl ?_
  refine Rv rfl rfl rfl (U_gtr rfl rfl) rfl rfl ?_
  refine Rv rfl rfl rfl (U_assign rfl) rfl rfl ?_
  refine Re rfl ?_
  refine thenQ_n ?_
  refine W_ret rfl ?_
  exact retM (T' := [(3, .bool (decide (0 < ms[i])))]) ⟨rfl, rfl, trivial⟩ (belb_cells (intsD _) rfl rfl) ⟨rfl, trivial⟩ rfl rfl (rlT rfl rl0) rfl
/-- What is kept of the first entries. -/
def kept (out : Nat → Bool) (es : List Ent) : Nat → List Ent
  | 0 => []
  | k + 1 => kept out es k ++ (if out k = true then [] else (es[k]?).toList)
def withoutS (s : Star) (out : Nat → Bool) : Star := ⟨s.lo, s.hi, kept out s.es s.es.length⟩
theorem kept_len (out : Nat → Bool) (es : List Ent) : ∀ k, (kept out es k).length ≤ k
  | 0 => Nat.le_refl _
  | k + 1 => by
    have := kept_len out es k
    simp only [kept, List.length_append]
    split
    · simp; omega
    · cases es[k]? <;> simp <;> omega
theorem without_p (s : Star) (c : Option Nat) (hl0 : s.es.length ≤ 1000) {f : FuncId} [FnOk Try.prog f] {ca : List AV} (hca : dataL ca) (out : Nat → Bool) (hp : ∀ i, i < s.es.length → Pure Try.prog f (i64 (i : Nat) :: ca) (.bool (out i))) : Pure Try.prog 94 [cardA s c, .fn f [] ca] (cardA (withoutS s out) none) := by
  refine pure_of_body Try.func94 (c := body Try.f94) rfl (by simp [Try.ntmps94]) fun w0 Φ0 => ?_
  refine W_seq rfl ?_
  refine W_reg rfl ?_
  refine Rv rfl rfl rfl (U_assign rfl) rfl rfl ?_
  refine Re rfl ?_
  refine thenQ_n ?_
  refine W_seq rfl ?_
  refine W_reg rfl ?_
  refine Rv rfl rfl rfl (U_move rfl) rfl rfl ?_
  first | refine Rv rfl rfl rfl (U_nilCheckR rfl) rfl rfl ?_ | refine Rv rfl rfl rfl (U_nilCheck rfl) rfl rfl ?_ | refine Rv rfl rfl rfl (U_nilCheckF rfl) rfl rfl ?_
  first | refine Rv rfl rfl rfl (U_fieldAddr rfl) rfl rfl ?_ | refine Rv rfl rfl rfl (U_fieldAddrR rfl) rfl rfl ?_
  first | refine Rv rfl rfl rfl (U_fieldAddr rfl) rfl rfl ?_ | refine Rv rfl rfl rfl (U_fieldAddrR rfl) rfl rfl ?_
  refine Rv rfl rfl rfl (U_load2 rfl rfl rfl rfl) rfl rfl ?_
  refine Rv rfl rfl rfl (U_build rfl rfl) rfl rfl ?_
  refine Rv rfl rfl rfl (U_build rfl rfl) rfl rfl ?_
  refine Ra rfl rfl rfl (U_box rfl rfl) rfl rfl rfl ?_
  refine Rv rfl rfl rfl (U_assign rfl) rfl rfl ?_
  refine Re rfl ?_
  refine thenQ_n ?_
  refine W_seq rfl ?_
  refine W_seq rfl ?_
  refine W_reg rfl ?_
  refine Rv rfl rfl rfl (U_move rfl) rfl rfl ?_
  first | refine Rv rfl rfl rfl (U_nilCheckR rfl) rfl rfl ?_ | refine Rv rfl rfl rfl (U_nilCheck rfl) rfl rfl ?_ | refine Rv rfl rfl rfl (U_nilCheckF rfl) rfl rfl ?_
  first | refine Rv rfl rfl rfl (U_fieldAddr rfl) rfl rfl ?_ | refine Rv rfl rfl rfl (U_fieldAddrR rfl) rfl rfl ?_
  first | refine Rv rfl rfl rfl (U_fieldAddr rfl) rfl rfl ?_ | refine Rv rfl rfl rfl (U_fieldAddrR rfl) rfl rfl ?_
  refine Rv rfl rfl rfl (U_load1 rfl rfl rfl) rfl rfl ?_
  first | refine Rv rfl rfl rfl (U_lenOf rfl len_ros) rfl rfl ?_ | refine Rv rfl rfl rfl (U_lenOf rfl len_slice) rfl rfl ?_ | refine Rv rfl rfl rfl (U_lenOf rfl len_sliceo) rfl rfl ?_ | refine Rv rfl rfl rfl (U_lenOf rfl len_nils) rfl rfl ?_
  refine Rv rfl rfl rfl (U_move rfl) rfl rfl ?_
  refine Re rfl ?_
  refine thenQ_n ?_
  refine Wshrink (nx' := 2) (T' := [(22, i64 ((0 : Nat) : Int)), (21, i64 (s.es.length : Nat)), (20, entsA s.es c), (5, .ptr 0 0), (1, .fn f [] ca), (0, cardA s c)]) (H' := [(1, outB ((kept out s.es 0).flatMap entC) 76 (0)), (0, some (.cells [i64 s.lo, i64 s.hi, outV 1 3 (0)] 132))]) ⟨rfl, rfl, rfl, rfl, rfl, rfl, trivial⟩ ⟨rfl, rfl, trivial⟩ (by simp [belbT, AV.belb, belbL, belbL_data ca hca, Nat.blt_eq]) (belb_out (entsD _) rfl (by show (_ && _ && belbH 2 []) = true; rw [show belbH 2 [] = true from rfl]; rfl)) (by simp) rfl ?_
  refine W_block rfl ?_
  refine Wloop rfl (fun m q => ∃ (k n : Nat) (l : List Ent), k ≤ s.es.length ∧ l = kept out s.es k ∧ n = l.length ∧ m = s.es.length - k ∧ q = ⟨[(22, i64 (k : Nat)), (21, i64 (s.es.length : Nat)), (20, entsA s.es c), (5, .ptr 0 0), (1, .fn f [] ca), (0, cardA s c)], [(1, outB ((l).flatMap entC) 76 (n)), (0, some (.cells [i64 s.lo, i64 s.hi, outV 1 3 (n)] 132))], 2, []⟩) (n := s.es.length) ⟨0, 0, _, Nat.zero_le _, rfl, rfl, rfl, rfl⟩ ?_
  rintro _ _ ⟨k, n, l, hk, hl, hn, rfl, rfl⟩
  have hll := kept_len out s.es k
  rcases n with _ | n
  · refine W_seq rfl ?_
    refine W_reg rfl ?_
    refine Rv rfl rfl rfl (U_lss rfl rfl) rfl rfl ?_
    refine Re rfl ?_
    refine thenQ_n ?_
    refine W_seq rfl ?_
    refine WcondP rfl rfl (fun hc0 => ?_) (fun hc0 => ?_)
    · have hc : k < s.es.length := by omega
      refine W_skip rfl ?_
      refine thenQ_n ?_
      refine W_seq rfl ?_
      refine W_block rfl ?_
      refine W_seq rfl ?_
      refine W_reg rfl ?_
      refine Rv rfl rfl rfl (U_move rfl) rfl rfl ?_
      refine Rv rfl rfl rfl (U_indexR rfl rfl rfl hc) rfl rfl ?_
      refine Rv rfl rfl rfl (U_load3 rfl rfl (ent0 hc) (ent1 hc) (ent2 hc)) rfl rfl ?_
      refine Ra rfl rfl rfl (U_alloc) rfl rfl rfl ?_
      refine Rv rfl rfl rfl (U_assign rfl) rfl rfl ?_
      first | refine Rn rfl rfl rfl (U_storeAll rfl rfl rfl rfl rfl rfl) rfl ?_ | refine Rn rfl rfl rfl (U_store rfl rfl rfl rfl rfl (by decide) rfl rfl) rfl ?_
      refine Re rfl ?_
      refine thenQ_n ?_
      refine W_seq rfl ?_
      refine W_reg rfl ?_
      refine Rv rfl rfl rfl (U_move rfl) rfl rfl ?_
      refine Rv rfl rfl rfl (U_move rfl) rfl rfl ?_
      refine Rv rfl rfl rfl (U_call rfl rfl (hp k hc) (by show dataL (i64 (k : Nat) :: ca); exact dataL_cons.2 ⟨rfl, hca⟩)) rfl rfl ?_
      refine Rv rfl rfl rfl (U_not rfl) rfl rfl ?_
      refine Re rfl ?_
      refine thenQ_n ?_
      refine Wcond rfl rfl (fun hO => ?_) (fun hO => ?_)
      · refine Wdraw rfl (by kernel_rfl) (by kernel_rfl) ?_
        refine Dv rfl rfl rfl (U_move rfl) rfl rfl ?_
        refine Dv rfl rfl rfl (U_move rfl) rfl rfl ?_
        first | refine Dv rfl rfl rfl (U_nilCheckR rfl) rfl rfl ?_ | refine Dv rfl rfl rfl (U_nilCheck rfl) rfl rfl ?_ | refine Dv rfl rfl rfl (U_nilCheckF rfl) rfl rfl ?_
        first | refine Dv rfl rfl rfl (U_fieldAddr rfl) rfl rfl ?_ | refine Dv rfl rfl rfl (U_fieldAddrR rfl) rfl rfl ?_
        first | refine Dv rfl rfl rfl (U_fieldAddr rfl) rfl rfl ?_ | refine Dv rfl rfl rfl (U_fieldAddrR rfl) rfl rfl ?_
        refine Dv rfl rfl rfl (U_load1 rfl rfl rfl) rfl rfl ?_
        refine Dv rfl rfl rfl (U_load3 rfl rfl rfl rfl rfl) rfl rfl ?_
        refine Da rfl rfl rfl (U_buildSlice (by rfl) (by decide) rfl rfl) rfl rfl rfl rfl ?_
        first | refine Da rfl rfl rfl (U_appendOut0 (b := 1) (m := 0) rfl rfl (by rw [ents_len, ← hn]) rfl (by omega) rfl) rfl rfl rfl rfl ?_ | refine Da rfl rfl rfl (U_appendOut (m := 0) rfl rfl rfl (by rw [ents_len, ← hn]) rfl rfl (by rw [hn, hl]; omega) rfl) rfl rfl rfl rfl ?_
        first | refine Dv rfl rfl rfl (U_nilCheckR rfl) rfl rfl ?_ | refine Dv rfl rfl rfl (U_nilCheck rfl) rfl rfl ?_ | refine Dv rfl rfl rfl (U_nilCheckF rfl) rfl rfl ?_
        first | refine Dv rfl rfl rfl (U_fieldAddr rfl) rfl rfl ?_ | refine Dv rfl rfl rfl (U_fieldAddrR rfl) rfl rfl ?_
        first | refine Dv rfl rfl rfl (U_fieldAddr rfl) rfl rfl ?_ | refine Dv rfl rfl rfl (U_fieldAddrR rfl) rfl rfl ?_
        first | refine Dn_ rfl rfl rfl (U_store (b := 0) (o := 2) (vs := [outV 4 3 (0 + 1)]) (cs := [i64 s.lo, i64 s.hi, outV 1 3 0]) (cs' := [i64 s.lo, i64 s.hi, outV 4 3 (0 + 1)]) rfl rfl rfl rfl rfl (Nat.le_refl _) rfl rfl) rfl rfl ?_ | refine Dn_ rfl rfl rfl (U_store (b := 0) (o := 2) (vs := [outV 4 3 (n + 1 + 1)]) (cs := [i64 s.lo, i64 s.hi, outV 1 3 (n + 1)]) (cs' := [i64 s.lo, i64 s.hi, outV 4 3 (n + 1 + 1)]) rfl rfl rfl rfl rfl (Nat.le_refl _) rfl rfl) rfl rfl ?_
        refine Dr.nil rfl ?_
        refine blkQ_n ?_
        refine thenQ_n ?_
        refine W_reg rfl ?_
        refine Rv rfl rfl rfl (U_add rfl rfl (w64e (m := ((k + 1 : Nat) : Int)) (by omega) (by omega) (by omega))) rfl rfl ?_
        refine Rv rfl rfl rfl (U_move rfl) rfl rfl ?_
        refine Re rfl ?_
        refine thenQ_n ?_
        first
          | (have hO2 : out k = false := by simpa using hO
             have hcs : (l ++ [s.es[k]]).flatMap entC = l.flatMap entC ++ [i64 s.es[k].y, i64 s.es[k].lo, i64 s.es[k].hi] := by simp [entC]
             exact againR (nx' := 2) (mapN [0, 4]) (s.es.length - (k + 1)) (by omega) (T' := [(22, i64 ((k + 1 : Nat) : Int)), (21, i64 (s.es.length : Nat)), (20, entsA s.es c), (5, .ptr 0 0), (1, .fn f [] ca), (0, cardA s c)]) (H' := [(1, outB ((l ++ [s.es[k]]).flatMap entC) 76 (0 + 1)), (0, some (.cells [i64 s.lo, i64 s.hi, outV 1 3 (0 + 1)] 132))]) ⟨rfl, rfl, rfl, rfl, by rw [show (AV.fn f [] ca).ren _ = AV.fn f [] ca from ren_data _ (by simpa [AV.data, AV.isd, isdL] using hca)]; rfl, rfl, trivial⟩ (renSub_out (entsD _) (by rw [hcs]; rfl) ⟨rfl, trivial⟩) (by simp [belbT, AV.belb, belbL, belbL_data ca hca, Nat.blt_eq]) (belb_out (entsD _) rfl (by show (_ && _ && belbH 2 []) = true; rw [show belbH 2 [] = true from rfl]; rfl)) rfl rfl (by simp) rfl (fun _ h => absurd h (Nat.not_lt_zero _)) ⟨k + 1, 0 + 1, _, hc, by rw [kept, ← hl]; simp [hO2, hc], by rw [List.length_append, ← hn]; rfl, rfl, rfl⟩)
          | (have hO2 : out k = true := by simpa using hO
             exact againS (nx' := 2) (s.es.length - (k + 1)) (by omega) (T' := [(22, i64 ((k + 1 : Nat) : Int)), (21, i64 (s.es.length : Nat)), (20, entsA s.es c), (5, .ptr 0 0), (1, .fn f [] ca), (0, cardA s c)]) (H' := [(1, outB ((l).flatMap entC) 76 (0)), (0, some (.cells [i64 s.lo, i64 s.hi, outV 1 3 (0)] 132))]) ⟨rfl, rfl, rfl, rfl, rfl, rfl, trivial⟩ ⟨rfl, rfl, trivial⟩ (by simp [belbT, AV.belb, belbL, belbL_data ca hca, Nat.blt_eq]) (belb_out (entsD _) rfl (by show (_ && _ && belbH 2 []) = true; rw [show belbH 2 [] = true from rfl]; rfl)) (by simp) rfl ⟨k + 1, 0, l, hc, by rw [kept, ← hl]; simp [hO2], hn, rfl, rfl⟩)
          | (have hO2 : out k = false := by simpa using hO
             have hcs : (l ++ [s.es[k]]).flatMap entC = l.flatMap entC ++ [i64 s.es[k].y, i64 s.es[k].lo, i64 s.es[k].hi] := by simp [entC]
             exact againR (nx' := 2) (mapN [0, 4]) (s.es.length - (k + 1)) (by omega) (T' := [(22, i64 ((k + 1 : Nat) : Int)), (21, i64 (s.es.length : Nat)), (20, entsA s.es c), (5, .ptr 0 0), (1, .fn f [] ca), (0, cardA s c)]) (H' := [(1, outB ((l ++ [s.es[k]]).flatMap entC) 76 (n + 1 + 1)), (0, some (.cells [i64 s.lo, i64 s.hi, outV 1 3 (n + 1 + 1)] 132))]) ⟨rfl, rfl, rfl, rfl, by rw [show (AV.fn f [] ca).ren _ = AV.fn f [] ca from ren_data _ (by simpa [AV.data, AV.isd, isdL] using hca)]; rfl, rfl, trivial⟩ (renSub_out (entsD _) (by rw [hcs]; rfl) ⟨rfl, trivial⟩) (by simp [belbT, AV.belb, belbL, belbL_data ca hca, Nat.blt_eq]) (belb_out (entsD _) rfl (by show (_ && _ && belbH 2 []) = true; rw [show belbH 2 [] = true from rfl]; rfl)) rfl rfl (by simp) rfl (fun _ h => absurd h (Nat.not_lt_zero _)) ⟨k + 1, n + 1 + 1, _, hc, by rw [kept, ← hl]; simp [hO2, hc], by rw [List.length_append, ← hn]; rfl, rfl, rfl⟩)
          | (have hO2 : out k = true := by simpa using hO
             exact againS (nx' := 2) (s.es.length - (k + 1)) (by omega) (T' := [(22, i64 ((k + 1 : Nat) : Int)), (21, i64 (s.es.length : Nat)), (20, entsA s.es c), (5, .ptr 0 0), (1, .fn f [] ca), (0, cardA s c)]) (H' := [(1, outB ((l).flatMap entC) 76 (n + 1)), (0, some (.cells [i64 s.lo, i64 s.hi, outV 1 3 (n + 1)] 132))]) ⟨rfl, rfl, rfl, rfl, rfl, rfl, trivial⟩ ⟨rfl, rfl, trivial⟩ (by simp [belbT, AV.belb, belbL, belbL_data ca hca, Nat.blt_eq]) (belb_out (entsD _) rfl (by show (_ && _ && belbH 2 []) = true; rw [show belbH 2 [] = true from rfl]; rfl)) (by simp) rfl ⟨k + 1, n + 1, l, hc, by rw [kept, ← hl]; simp [hO2], hn, rfl, rfl⟩)
      · refine W_skip rfl ?_
        refine blkQ_n ?_
        refine thenQ_n ?_
        refine W_reg rfl ?_
        refine Rv rfl rfl rfl (U_add rfl rfl (w64e (m := ((k + 1 : Nat) : Int)) (by omega) (by omega) (by omega))) rfl rfl ?_
        refine Rv rfl rfl rfl (U_move rfl) rfl rfl ?_
        refine Re rfl ?_
        refine thenQ_n ?_
        first
          | (have hO2 : out k = false := by simpa using hO
             have hcs : (l ++ [s.es[k]]).flatMap entC = l.flatMap entC ++ [i64 s.es[k].y, i64 s.es[k].lo, i64 s.es[k].hi] := by simp [entC]
             exact againR (nx' := 2) (mapN [0, 4]) (s.es.length - (k + 1)) (by omega) (T' := [(22, i64 ((k + 1 : Nat) : Int)), (21, i64 (s.es.length : Nat)), (20, entsA s.es c), (5, .ptr 0 0), (1, .fn f [] ca), (0, cardA s c)]) (H' := [(1, outB ((l ++ [s.es[k]]).flatMap entC) 76 (0 + 1)), (0, some (.cells [i64 s.lo, i64 s.hi, outV 1 3 (0 + 1)] 132))]) ⟨rfl, rfl, rfl, rfl, by rw [show (AV.fn f [] ca).ren _ = AV.fn f [] ca from ren_data _ (by simpa [AV.data, AV.isd, isdL] using hca)]; rfl, rfl, trivial⟩ (renSub_out (entsD _) (by rw [hcs]; rfl) ⟨rfl, trivial⟩) (by simp [belbT, AV.belb, belbL, belbL_data ca hca, Nat.blt_eq]) (belb_out (entsD _) rfl (by show (_ && _ && belbH 2 []) = true; rw [show belbH 2 [] = true from rfl]; rfl)) rfl rfl (by simp) rfl (fun _ h => absurd h (Nat.not_lt_zero _)) ⟨k + 1, 0 + 1, _, hc, by rw [kept, ← hl]; simp [hO2, hc], by rw [List.length_append, ← hn]; rfl, rfl, rfl⟩)
          | (have hO2 : out k = true := by simpa using hO
             exact againS (nx' := 2) (s.es.length - (k + 1)) (by omega) (T' := [(22, i64 ((k + 1 : Nat) : Int)), (21, i64 (s.es.length : Nat)), (20, entsA s.es c), (5, .ptr 0 0), (1, .fn f [] ca), (0, cardA s c)]) (H' := [(1, outB ((l).flatMap entC) 76 (0)), (0, some (.cells [i64 s.lo, i64 s.hi, outV 1 3 (0)] 132))]) ⟨rfl, rfl, rfl, rfl, rfl, rfl, trivial⟩ ⟨rfl, rfl, trivial⟩ (by simp [belbT, AV.belb, belbL, belbL_data ca hca, Nat.blt_eq]) (belb_out (entsD _) rfl (by show (_ && _ && belbH 2 []) = true; rw [show belbH 2 [] = true from rfl]; rfl)) (by simp) rfl ⟨k + 1, 0, l, hc, by rw [kept, ← hl]; simp [hO2], hn, rfl, rfl⟩)
          | (have hO2 : out k = false := by simpa using hO
             have hcs : (l ++ [s.es[k]]).flatMap entC = l.flatMap entC ++ [i64 s.es[k].y, i64 s.es[k].lo, i64 s.es[k].hi] := by simp [entC]
             exact againR (nx' := 2) (mapN [0, 4]) (s.es.length - (k + 1)) (by omega) (T' := [(22, i64 ((k + 1 : Nat) : Int)), (21, i64 (s.es.length : Nat)), (20, entsA s.es c), (5, .ptr 0 0), (1, .fn f [] ca), (0, cardA s c)]) (H' := [(1, outB ((l ++ [s.es[k]]).flatMap entC) 76 (n + 1 + 1)), (0, some (.cells [i64 s.lo, i64 s.hi, outV 1 3 (n + 1 + 1)] 132))]) ⟨rfl, rfl, rfl, rfl, by rw [show (AV.fn f [] ca).ren _ = AV.fn f [] ca from ren_data _ (by simpa [AV.data, AV.isd, isdL] using hca)]; rfl, rfl, trivial⟩ (renSub_out (entsD _) (by rw [hcs]; rfl) ⟨rfl, trivial⟩) (by simp [belbT, AV.belb, belbL, belbL_data ca hca, Nat.blt_eq]) (belb_out (entsD _) rfl (by show (_ && _ && belbH 2 []) = true; rw [show belbH 2 [] = true from rfl]; rfl)) rfl rfl (by simp) rfl (fun _ h => absurd h (Nat.not_lt_zero _)) ⟨k + 1, n + 1 + 1, _, hc, by rw [kept, ← hl]; simp [hO2, hc], by rw [List.length_append, ← hn]; rfl, rfl, rfl⟩)
          | (have hO2 : out k = true := by simpa using hO
             exact againS (nx' := 2) (s.es.length - (k + 1)) (by omega) (T' := [(22, i64 ((k + 1 : Nat) : Int)), (21, i64 (s.es.length : Nat)), (20, entsA s.es c), (5, .ptr 0 0), (1, .fn f [] ca), (0, cardA s c)]) (H' := [(1, outB ((l).flatMap entC) 76 (n + 1)), (0, some (.cells [i64 s.lo, i64 s.hi, outV 1 3 (n + 1)] 132))]) ⟨rfl, rfl, rfl, rfl, rfl, rfl, trivial⟩ ⟨rfl, rfl, trivial⟩ (by simp [belbT, AV.belb, belbL, belbL_data ca hca, Nat.blt_eq]) (belb_out (entsD _) rfl (by show (_ && _ && belbH 2 []) = true; rw [show belbH 2 [] = true from rfl]; rfl)) (by simp) rfl ⟨k + 1, n + 1, l, hc, by rw [kept, ← hl]; simp [hO2], hn, rfl, rfl⟩)
    · refine W_exit rfl ?_
      refine thenQ_x ?_
      refine thenQ_x ?_
      refine blkQ_x rfl ?_
      refine thenQ_n ?_
      refine W_seq rfl ?_
      refine W_reg rfl ?_
      refine Rv rfl rfl rfl (U_move rfl) rfl rfl ?_
      refine Rv rfl rfl rfl (U_assign rfl) rfl rfl ?_
      refine Re rfl ?_
      refine thenQ_n ?_
      obtain rfl : k = s.es.length := by omega
      subst hl
      first
        | (refine W_gh (s' := ⟨[(4, .ptr 0 0)], [(0, some (.cells [i64 s.lo, i64 s.hi, .ros ((kept out s.es s.es.length).flatMap entC) (0) none] 132))], 2, []⟩) (Gh_outH (t := 76) (n := 0) (b := 1) (b2 := 0) (cs := (kept out s.es s.es.length).flatMap entC) (pre := [i64 s.lo, i64 s.hi]) (post := []) rfl (entsD _) rfl (by decide) (fun _ _ => rfl) (fun _ _ => rfl) ⟨rfl, trivial⟩ (fun _ => ⟨rfl, trivial⟩) (fun m q h hne => by rw [gt_cons, if_neg (fun e => hne e.symm)] at h; cases h) rfl) ?_; refine Wfr 0 rfl rfl (T' := [(4, .rop [i64 s.lo, i64 s.hi, .ros ((kept out s.es s.es.length).flatMap entC) (0) none] 0)]) (H' := []) ⟨rfl, trivial⟩ trivial ?_)
        | (refine W_gh (s' := ⟨[(4, .ptr 0 0)], [(0, some (.cells [i64 s.lo, i64 s.hi, .ros ((kept out s.es s.es.length).flatMap entC) (n + 1) none] 132))], 2, []⟩) (Gh_outH (t := 76) (n := n + 1) (b := 1) (b2 := 0) (cs := (kept out s.es s.es.length).flatMap entC) (pre := [i64 s.lo, i64 s.hi]) (post := []) rfl (entsD _) rfl (by decide) (fun _ _ => rfl) (fun _ _ => rfl) ⟨rfl, trivial⟩ (fun _ => ⟨rfl, trivial⟩) (fun m q h hne => by rw [gt_cons, if_neg (fun e => hne e.symm)] at h; cases h) rfl) ?_; refine Wfr 0 rfl rfl (T' := [(4, .rop [i64 s.lo, i64 s.hi, .ros ((kept out s.es s.es.length).flatMap entC) (n + 1) none] 0)]) (H' := []) ⟨rfl, trivial⟩ trivial ?_)
      refine W_ret rfl ?_
      exact ret1 rfl (by show _ = AV.rop [i64 s.lo, i64 s.hi, .ros ((kept out s.es s.es.length).flatMap entC) (kept out s.es s.es.length).length none] 0; rw [← hn]) rfl
  · refine W_seq rfl ?_
    refine W_reg rfl ?_
    refine Rv rfl rfl rfl (U_lss rfl rfl) rfl rfl ?_
    refine Re rfl ?_
    refine thenQ_n ?_
    refine W_seq rfl ?_
    refine WcondP rfl rfl (fun hc0 => ?_) (fun hc0 => ?_)
    · have hc : k < s.es.length := by omega
      refine W_skip rfl ?_
      refine thenQ_n ?_
      refine W_seq rfl ?_
      refine W_block rfl ?_
      refine W_seq rfl ?_
      refine W_reg rfl ?_
      refine Rv rfl rfl rfl (U_move rfl) rfl rfl ?_
      refine Rv rfl rfl rfl (U_indexR rfl rfl rfl hc) rfl rfl ?_
      refine Rv rfl rfl rfl (U_load3 rfl rfl (ent0 hc) (ent1 hc) (ent2 hc)) rfl rfl ?_
      refine Ra rfl rfl rfl (U_alloc) rfl rfl rfl ?_
      refine Rv rfl rfl rfl (U_assign rfl) rfl rfl ?_
      first | refine Rn rfl rfl rfl (U_storeAll rfl rfl rfl rfl rfl rfl) rfl ?_ | refine Rn rfl rfl rfl (U_store rfl rfl rfl rfl rfl (by decide) rfl rfl) rfl ?_
      refine Re rfl ?_
      refine thenQ_n ?_
      refine W_seq rfl ?_
      refine W_reg rfl ?_
      refine Rv rfl rfl rfl (U_move rfl) rfl rfl ?_
      refine Rv rfl rfl rfl (U_move rfl) rfl rfl ?_
      refine Rv rfl rfl rfl (U_call rfl rfl (hp k hc) (by show dataL (i64 (k : Nat) :: ca); exact dataL_cons.2 ⟨rfl, hca⟩)) rfl rfl ?_
      refine Rv rfl rfl rfl (U_not rfl) rfl rfl ?_
      refine Re rfl ?_
      refine thenQ_n ?_
      refine Wcond rfl rfl (fun hO => ?_) (fun hO => ?_)
      · refine Wdraw rfl (by kernel_rfl) (by kernel_rfl) ?_
        refine Dv rfl rfl rfl (U_move rfl) rfl rfl ?_
        refine Dv rfl rfl rfl (U_move rfl) rfl rfl ?_
        first | refine Dv rfl rfl rfl (U_nilCheckR rfl) rfl rfl ?_ | refine Dv rfl rfl rfl (U_nilCheck rfl) rfl rfl ?_ | refine Dv rfl rfl rfl (U_nilCheckF rfl) rfl rfl ?_
        first | refine Dv rfl rfl rfl (U_fieldAddr rfl) rfl rfl ?_ | refine Dv rfl rfl rfl (U_fieldAddrR rfl) rfl rfl ?_
        first | refine Dv rfl rfl rfl (U_fieldAddr rfl) rfl rfl ?_ | refine Dv rfl rfl rfl (U_fieldAddrR rfl) rfl rfl ?_
        refine Dv rfl rfl rfl (U_load1 rfl rfl rfl) rfl rfl ?_
        refine Dv rfl rfl rfl (U_load3 rfl rfl rfl rfl rfl) rfl rfl ?_
        refine Da rfl rfl rfl (U_buildSlice (by rfl) (by decide) rfl rfl) rfl rfl rfl rfl ?_
        first | refine Da rfl rfl rfl (U_appendOut0 (b := 1) (m := 0) rfl rfl (by rw [ents_len, ← hn]) rfl (by omega) rfl) rfl rfl rfl rfl ?_ | refine Da rfl rfl rfl (U_appendOut (m := 0) rfl rfl rfl (by rw [ents_len, ← hn]) rfl rfl (by rw [hn, hl]; omega) rfl) rfl rfl rfl rfl ?_
        first | refine Dv rfl rfl rfl (U_nilCheckR rfl) rfl rfl ?_ | refine Dv rfl rfl rfl (U_nilCheck rfl) rfl rfl ?_ | refine Dv rfl rfl rfl (U_nilCheckF rfl) rfl rfl ?_
        first | refine Dv rfl rfl rfl (U_fieldAddr rfl) rfl rfl ?_ | refine Dv rfl rfl rfl (U_fieldAddrR rfl) rfl rfl ?_
        first | refine Dv rfl rfl rfl (U_fieldAddr rfl) rfl rfl ?_ | refine Dv rfl rfl rfl (U_fieldAddrR rfl) rfl rfl ?_
        first | refine Dn_ rfl rfl rfl (U_store (b := 0) (o := 2) (vs := [outV 4 3 (0 + 1)]) (cs := [i64 s.lo, i64 s.hi, outV 1 3 0]) (cs' := [i64 s.lo, i64 s.hi, outV 4 3 (0 + 1)]) rfl rfl rfl rfl rfl (Nat.le_refl _) rfl rfl) rfl rfl ?_ | refine Dn_ rfl rfl rfl (U_store (b := 0) (o := 2) (vs := [outV 4 3 (n + 1 + 1)]) (cs := [i64 s.lo, i64 s.hi, outV 1 3 (n + 1)]) (cs' := [i64 s.lo, i64 s.hi, outV 4 3 (n + 1 + 1)]) rfl rfl rfl rfl rfl (Nat.le_refl _) rfl rfl) rfl rfl ?_
        refine Dr.nil rfl ?_
        refine blkQ_n ?_
        refine thenQ_n ?_
        refine W_reg rfl ?_
        refine Rv rfl rfl rfl (U_add rfl rfl (w64e (m := ((k + 1 : Nat) : Int)) (by omega) (by omega) (by omega))) rfl rfl ?_
        refine Rv rfl rfl rfl (U_move rfl) rfl rfl ?_
        refine Re rfl ?_
        refine thenQ_n ?_
        first
          | (have hO2 : out k = false := by simpa using hO
             have hcs : (l ++ [s.es[k]]).flatMap entC = l.flatMap entC ++ [i64 s.es[k].y, i64 s.es[k].lo, i64 s.es[k].hi] := by simp [entC]
             exact againR (nx' := 2) (mapN [0, 4]) (s.es.length - (k + 1)) (by omega) (T' := [(22, i64 ((k + 1 : Nat) : Int)), (21, i64 (s.es.length : Nat)), (20, entsA s.es c), (5, .ptr 0 0), (1, .fn f [] ca), (0, cardA s c)]) (H' := [(1, outB ((l ++ [s.es[k]]).flatMap entC) 76 (0 + 1)), (0, some (.cells [i64 s.lo, i64 s.hi, outV 1 3 (0 + 1)] 132))]) ⟨rfl, rfl, rfl, rfl, by rw [show (AV.fn f [] ca).ren _ = AV.fn f [] ca from ren_data _ (by simpa [AV.data, AV.isd, isdL] using hca)]; rfl, rfl, trivial⟩ (renSub_out (entsD _) (by rw [hcs]; rfl) ⟨rfl, trivial⟩) (by simp [belbT, AV.belb, belbL, belbL_data ca hca, Nat.blt_eq]) (belb_out (entsD _) rfl (by show (_ && _ && belbH 2 []) = true; rw [show belbH 2 [] = true from rfl]; rfl)) rfl rfl (by simp) rfl (fun _ h => absurd h (Nat.not_lt_zero _)) ⟨k + 1, 0 + 1, _, hc, by rw [kept, ← hl]; simp [hO2, hc], by rw [List.length_append, ← hn]; rfl, rfl, rfl⟩)
          | (have hO2 : out k = true := by simpa using hO
             exact againS (nx' := 2) (s.es.length - (k + 1)) (by omega) (T' := [(22, i64 ((k + 1 : Nat) : Int)), (21, i64 (s.es.length : Nat)), (20, entsA s.es c), (5, .ptr 0 0), (1, .fn f [] ca), (0, cardA s c)]) (H' := [(1, outB ((l).flatMap entC) 76 (0)), (0, some (.cells [i64 s.lo, i64 s.hi, outV 1 3 (0)] 132))]) ⟨rfl, rfl, rfl, rfl, rfl, rfl, trivial⟩ ⟨rfl, rfl, trivial⟩ (by simp [belbT, AV.belb, belbL, belbL_data ca hca, Nat.blt_eq]) (belb_out (entsD _) rfl (by show (_ && _ && belbH 2 []) = true; rw [show belbH 2 [] = true from rfl]; rfl)) (by simp) rfl ⟨k + 1, 0, l, hc, by rw [kept, ← hl]; simp [hO2], hn, rfl, rfl⟩)
          | (have hO2 : out k = false := by simpa using hO
             have hcs : (l ++ [s.es[k]]).flatMap entC = l.flatMap entC ++ [i64 s.es[k].y, i64 s.es[k].lo, i64 s.es[k].hi] := by simp [entC]
             exact againR (nx' := 2) (mapN [0, 4]) (s.es.length - (k + 1)) (by omega) (T' := [(22, i64 ((k + 1 : Nat) : Int)), (21, i64 (s.es.length : Nat)), (20, entsA s.es c), (5, .ptr 0 0), (1, .fn f [] ca), (0, cardA s c)]) (H' := [(1, outB ((l ++ [s.es[k]]).flatMap entC) 76 (n + 1 + 1)), (0, some (.cells [i64 s.lo, i64 s.hi, outV 1 3 (n + 1 + 1)] 132))]) ⟨rfl, rfl, rfl, rfl, by rw [show (AV.fn f [] ca).ren _ = AV.fn f [] ca from ren_data _ (by simpa [AV.data, AV.isd, isdL] using hca)]; rfl, rfl, trivial⟩ (renSub_out (entsD _) (by rw [hcs]; rfl) ⟨rfl, trivial⟩) (by simp [belbT, AV.belb, belbL, belbL_data ca hca, Nat.blt_eq]) (belb_out (entsD _) rfl (by show (_ && _ && belbH 2 []) = true; rw [show belbH 2 [] = true from rfl]; rfl)) rfl rfl (by simp) rfl (fun _ h => absurd h (Nat.not_lt_zero _)) ⟨k + 1, n + 1 + 1, _, hc, by rw [kept, ← hl]; simp [hO2, hc], by rw [List.length_append, ← hn]; rfl, rfl, rfl⟩)
          | (have hO2 : out k = true := by simpa using hO
             exact againS (nx' := 2) (s.es.length - (k + 1)) (by omega) (T' := [(22, i64 ((k + 1 : Nat) : Int)), (21, i64 (s.es.length : Nat)), (20, entsA s.es c), (5, .ptr 0 0), (1, .fn f [] ca), (0, cardA s c)]) (H' := [(1, outB ((l).flatMap entC) 76 (n + 1)), (0, some (.cells [i64 s.lo, i64 s.hi, outV 1 3 (n + 1)] 132))]) ⟨rfl, rfl, rfl, rfl, rfl, rfl, trivial⟩ ⟨rfl, rfl, trivial⟩ (by simp [belbT, AV.belb, belbL, belbL_data ca hca, Nat.blt_eq]) (belb_out (entsD _) rfl (by show (_ && _ && belbH 2 []) = true; rw [show belbH 2 [] = true from rfl]; rfl)) (by simp) rfl ⟨k + 1, n + 1, l, hc, by rw [kept, ← hl]; simp [hO2], hn, rfl, rfl⟩)
      · refine W_skip rfl ?_
        refine blkQ_n ?_
        refine thenQ_n ?_
        refine W_reg rfl ?_
        refine Rv rfl rfl rfl (U_add rfl rfl (w64e (m := ((k + 1 : Nat) : Int)) (by omega) (by omega) (by omega))) rfl rfl ?_
        refine Rv rfl rfl rfl (U_move rfl) rfl rfl ?_
        refine Re rfl ?_
        refine thenQ_n ?_
        first
          | (have hO2 : out k = false := by simpa using hO
             have hcs : (l ++ [s.es[k]]).flatMap entC = l.flatMap entC ++ [i64 s.es[k].y, i64 s.es[k].lo, i64 s.es[k].hi] := by simp [entC]
             exact againR (nx' := 2) (mapN [0, 4]) (s.es.length - (k + 1)) (by omega) (T' := [(22, i64 ((k + 1 : Nat) : Int)), (21, i64 (s.es.length : Nat)), (20, entsA s.es c), (5, .ptr 0 0), (1, .fn f [] ca), (0, cardA s c)]) (H' := [(1, outB ((l ++ [s.es[k]]).flatMap entC) 76 (0 + 1)), (0, some (.cells [i64 s.lo, i64 s.hi, outV 1 3 (0 + 1)] 132))]) ⟨rfl, rfl, rfl, rfl, by rw [show (AV.fn f [] ca).ren _ = AV.fn f [] ca from ren_data _ (by simpa [AV.data, AV.isd, isdL] using hca)]; rfl, rfl, trivial⟩ (renSub_out (entsD _) (by rw [hcs]; rfl) ⟨rfl, trivial⟩) (by simp [belbT, AV.belb, belbL, belbL_data ca hca, Nat.blt_eq]) (belb_out (entsD _) rfl (by show (_ && _ && belbH 2 []) = true; rw [show belbH 2 [] = true from rfl]; rfl)) rfl rfl (by simp) rfl (fun _ h => absurd h (Nat.not_lt_zero _)) ⟨k + 1, 0 + 1, _, hc, by rw [kept, ← hl]; simp [hO2, hc], by rw [List.length_append, ← hn]; rfl, rfl, rfl⟩)
          | (have hO2 : out k = true := by simpa using hO
             exact againS (nx' := 2) (s.es.length - (k + 1)) (by omega) (T' := [(22, i64 ((k + 1 : Nat) : Int)), (21, i64 (s.es.length : Nat)), (20, entsA s.es c), (5, .ptr 0 0), (1, .fn f [] ca), (0, cardA s c)]) (H' := [(1, outB ((l).flatMap entC) 76 (0)), (0, some (.cells [i64 s.lo, i64 s.hi, outV 1 3 (0)] 132))]) ⟨rfl, rfl, rfl, rfl, rfl, rfl, trivial⟩ ⟨rfl, rfl, trivial⟩ (by simp [belbT, AV.belb, belbL, belbL_data ca hca, Nat.blt_eq]) (belb_out (entsD _) rfl (by show (_ && _ && belbH 2 []) = true; rw [show belbH 2 [] = true from rfl]; rfl)) (by simp) rfl ⟨k + 1, 0, l, hc, by rw [kept, ← hl]; simp [hO2], hn, rfl, rfl⟩)
          | (have hO2 : out k = false := by simpa using hO
             have hcs : (l ++ [s.es[k]]).flatMap entC = l.flatMap entC ++ [i64 s.es[k].y, i64 s.es[k].lo, i64 s.es[k].hi] := by simp [entC]
             exact againR (nx' := 2) (mapN [0, 4]) (s.es.length - (k + 1)) (by omega) (T' := [(22, i64 ((k + 1 : Nat) : Int)), (21, i64 (s.es.length : Nat)), (20, entsA s.es c), (5, .ptr 0 0), (1, .fn f [] ca), (0, cardA s c)]) (H' := [(1, outB ((l ++ [s.es[k]]).flatMap entC) 76 (n + 1 + 1)), (0, some (.cells [i64 s.lo, i64 s.hi, outV 1 3 (n + 1 + 1)] 132))]) ⟨rfl, rfl, rfl, rfl, by rw [show (AV.fn f [] ca).ren _ = AV.fn f [] ca from ren_data _ (by simpa [AV.data, AV.isd, isdL] using hca)]; rfl, rfl, trivial⟩ (renSub_out (entsD _) (by rw [hcs]; rfl) ⟨rfl, trivial⟩) (by simp [belbT, AV.belb, belbL, belbL_data ca hca, Nat.blt_eq]) (belb_out (entsD _) rfl (by show (_ && _ && belbH 2 []) = true; rw [show belbH 2 [] = true from rfl]; rfl)) rfl rfl (by simp) rfl (fun _ h => absurd h (Nat.not_lt_zero _)) ⟨k + 1, n + 1 + 1, _, hc, by rw [kept, ← hl]; simp [hO2, hc], by rw [List.length_append, ← hn]; rfl, rfl, rfl⟩)
          | (have hO2 : out k = true := by simpa using hO
             exact againS (nx' := 2) (s.es.length - (k + 1)) (by omega) (T' := [(22, i64 ((k + 1 : Nat) : Int)), (21, i64 (s.es.length : Nat)), (20, entsA s.es c), (5, .ptr 0 0), (1, .fn f [] ca), (0, cardA s c)]) (H' := [(1, outB ((l).flatMap entC) 76 (n + 1)), (0, some (.cells [i64 s.lo, i64 s.hi, outV 1 3 (n + 1)] 132))]) ⟨rfl, rfl, rfl, rfl, rfl, rfl, trivial⟩ ⟨rfl, rfl, trivial⟩ (by simp [belbT, AV.belb, belbL, belbL_data ca hca, Nat.blt_eq]) (belb_out (entsD _) rfl (by show (_ && _ && belbH 2 []) = true; rw [show belbH 2 [] = true from rfl]; rfl)) (by simp) rfl ⟨k + 1, n + 1, l, hc, by rw [kept, ← hl]; simp [hO2], hn, rfl, rfl⟩)
    · refine W_exit rfl ?_
      refine thenQ_x ?_
      refine thenQ_x ?_
      refine blkQ_x rfl ?_
      refine thenQ_n ?_
      refine W_seq rfl ?_
      refine W_reg rfl ?_
      refine Rv rfl rfl rfl (U_move rfl) rfl rfl ?_
      refine Rv rfl rfl rfl (U_assign rfl) rfl rfl ?_
      refine Re rfl ?_
      refine thenQ_n ?_
      obtain rfl : k = s.es.length := by omega
      subst hl
      first
        | (refine W_gh (s' := ⟨[(4, .ptr 0 0)], [(0, some (.cells [i64 s.lo, i64 s.hi, .ros ((kept out s.es s.es.length).flatMap entC) (0) none] 132))], 2, []⟩) (Gh_outH (t := 76) (n := 0) (b := 1) (b2 := 0) (cs := (kept out s.es s.es.length).flatMap entC) (pre := [i64 s.lo, i64 s.hi]) (post := []) rfl (entsD _) rfl (by decide) (fun _ _ => rfl) (fun _ _ => rfl) ⟨rfl, trivial⟩ (fun _ => ⟨rfl, trivial⟩) (fun m q h hne => by rw [gt_cons, if_neg (fun e => hne e.symm)] at h; cases h) rfl) ?_; refine Wfr 0 rfl rfl (T' := [(4, .rop [i64 s.lo, i64 s.hi, .ros ((kept out s.es s.es.length).flatMap entC) (0) none] 0)]) (H' := []) ⟨rfl, trivial⟩ trivial ?_)
        | (refine W_gh (s' := ⟨[(4, .ptr 0 0)], [(0, some (.cells [i64 s.lo, i64 s.hi, .ros ((kept out s.es s.es.length).flatMap entC) (n + 1) none] 132))], 2, []⟩) (Gh_outH (t := 76) (n := n + 1) (b := 1) (b2 := 0) (cs := (kept out s.es s.es.length).flatMap entC) (pre := [i64 s.lo, i64 s.hi]) (post := []) rfl (entsD _) rfl (by decide) (fun _ _ => rfl) (fun _ _ => rfl) ⟨rfl, trivial⟩ (fun _ => ⟨rfl, trivial⟩) (fun m q h hne => by rw [gt_cons, if_neg (fun e => hne e.symm)] at h; cases h) rfl) ?_; refine Wfr 0 rfl rfl (T' := [(4, .rop [i64 s.lo, i64 s.hi, .ros ((kept out s.es s.es.length).flatMap entC) (n + 1) none] 0)]) (H' := []) ⟨rfl, trivial⟩ trivial ?_)
      refine W_ret rfl ?_
      exact ret1 rfl (by show _ = AV.rop [i64 s.lo, i64 s.hi, .ros ((kept out s.es s.es.length).flatMap entC) (kept out s.es s.es.length).length none] 0; rw [← hn]) rfl
end Go.Proofs.Ytapappdgdiaijaa
end

section
/- Contracts of package drift: which entries may be left out. -/
namespace Go.Proofs.Ytapappdgdiaijaa
open Go.AE
theorem kept_sub (out : Nat → Bool) (es : List Ent) : ∀ k, (kept out es k).Sublist (es.take k)
  | 0 => by simp [kept]
  | k + 1 => by
    rw [List.take_add_one, kept]
    refine (kept_sub out es k).append ?_
    split
    · exact List.nil_sublist _
    · exact List.Sublist.refl _
theorem good_sub {s : Star} (h : Good s) {l : List Ent} (hl : l.Sublist s.es) : Good ⟨s.lo, s.hi, l⟩ := by
  have hp : s.es.Pairwise fun a b => a.y < b.y := List.pairwise_iff_getElem.2 fun i k hi hk hik => h.inc i k hik hk
  refine ⟨h.lo, h.hi, fun i hi => ?_, fun i k hik hk => ?_, Nat.le_trans hl.length_le h.len⟩
  · obtain ⟨j, hj, e⟩ := List.getElem_of_mem (hl.subset (List.getElem_mem hi))
    have := h.es j hj
    rw [e] at this; exact this
  · exact List.pairwise_iff_getElem.1 (hp.sublist hl) i k (Nat.lt_trans hik hk) hk hik
theorem good_without {s : Star} (h : Good s) (out : Nat → Bool) : Good (withoutS s out) := good_sub h ((kept_sub out s.es s.es.length).trans (List.take_sublist _ _))
def incrL (n : Int) (next : Int) : List Int → Bool
  | [] => true
  | x :: l => if (decide (x < next) || decide (n ≤ x)) = true then false else incrL n (x + 1) l
def inLeft (l : List Int) (i : Nat) : Bool := l.any fun y => decide ((i : Int) = y)
def leftS (s : Star) (l : List Int) : Int :=
  if chkS s = 0 then (if incrL s.es.length 0 l = true then (if hasB (withoutS s (inLeft l)) = true then 0 else 17) else 2) else chkS s
theorem checkLeft_p (s : Star) (c : Option Nat) (hl : s.es.length ≤ 1000000) (l : List Int) (c2 : Option Nat) (hl2 : l.length ≤ 1000000) : Pure Try.prog 43 [starA s c, intsA l c2] (i64 (leftS s l)) := by
  refine pure_of_body Try.func43 (c := body Try.f43) rfl (by simp [Try.ntmps43]) fun w0 Φ0 => ?_
  refine W_seq rfl ?_
  refine W_reg rfl ?_
  refine Ra rfl rfl rfl (U_box rfl rfl) rfl rfl rfl ?_
  refine Ra rfl rfl rfl (U_box rfl rfl) rfl rfl rfl ?_
  refine Rv rfl rfl rfl (U_assign rfl) rfl rfl ?_
  refine Re rfl ?_
  refine thenQ_n ?_
  refine W_seq rfl ?_
  refine W_reg rfl ?_
  refine Rv rfl rfl rfl (U_load3 rfl rfl rfl rfl rfl) rfl rfl ?_
  refine Rv rfl rfl rfl (U_call rfl rfl (open_p s c hl) rfl) rfl rfl ?_
  refine Rv rfl rfl rfl (U_move rfl) rfl rfl ?_
  refine Rv rfl rfl rfl (U_extract rfl rfl) rfl rfl ?_
  refine Rv rfl rfl rfl (U_extract rfl rfl) rfl rfl ?_
  refine Rv rfl rfl rfl (U_assign rfl) rfl rfl ?_
  refine Rv rfl rfl rfl (U_assign rfl) rfl rfl ?_
  refine Re rfl ?_
  refine thenQ_n ?_
  refine W_seq rfl ?_
  refine W_seq rfl ?_
  refine W_reg rfl ?_
  refine Rv rfl rfl rfl (U_move rfl) rfl rfl ?_
  first | refine Rv rfl rfl rfl (U_neq rfl rfl) rfl rfl ?_ | refine Rv rfl rfl rfl (U_neqA rfl rfl rfl rfl rfl rfl Iff.rfl) rfl rfl ?_ | refine Rv rfl rfl rfl (U_neqB rfl rfl) rfl rfl ?_
  refine Re rfl ?_
  refine thenQ_n ?_
  refine WcondP rfl rfl (fun h0 => ?_) (fun h0 => ?_)
  · refine W_seq rfl ?_
    refine W_reg rfl ?_
    refine Rv rfl rfl rfl (U_move rfl) rfl rfl ?_
    refine Rv rfl rfl rfl (U_assign rfl) rfl rfl ?_
    refine Re rfl ?_
    refine thenQ_n ?_
    refine W_ret rfl ?_
    refine thenQ_r ?_
    first
      | exact ret1 rfl (by rw [leftS, if_neg h0]) rfl
      | (rw [if_pos hD] at hi; exact ret1 rfl (by rw [leftS, if_pos h0, if_neg (by rw [← hi]; simp)]) rfl)
      | (rw [List.drop_eq_nil_of_le (by omega)] at hi; exact ret1 rfl (by rw [leftS, if_pos h0, if_pos (by rw [← hi]; rfl), if_neg (by simpa using hE)]) rfl)
      | (rw [List.drop_eq_nil_of_le (by omega)] at hi; exact ret1 rfl (by rw [leftS, if_pos h0, if_pos (by rw [← hi]; rfl), if_pos (by simpa using hE)]) rfl)
  · rw [Decidable.not_not] at h0
    rw [if_pos h0]
    have hg := good_of h0
    have hlen := hg.len
    refine W_skip rfl ?_
    refine thenQ_n ?_
    refine W_seq rfl ?_
    refine W_reg rfl ?_
    refine Rv rfl rfl rfl (U_assign rfl) rfl rfl ?_
    refine Re rfl ?_
    refine thenQ_n ?_
    refine W_seq rfl ?_
    refine W_seq rfl ?_
    refine W_reg rfl ?_
    refine Rv rfl rfl rfl (U_load1 rfl rfl rfl) rfl rfl ?_
    first | refine Rv rfl rfl rfl (U_lenOf rfl len_ros) rfl rfl ?_ | refine Rv rfl rfl rfl (U_lenOf rfl len_slice) rfl rfl ?_ | refine Rv rfl rfl rfl (U_lenOf rfl len_sliceo) rfl rfl ?_ | refine Rv rfl rfl rfl (U_lenOf rfl len_nils) rfl rfl ?_
    refine Rv rfl rfl rfl (U_move rfl) rfl rfl ?_
    refine Re rfl ?_
    refine thenQ_n ?_
    refine Wfr0 0 rfl rfl ?_
    refine Wfr 1 rfl rfl (T' := [(20, i64 ((0 : Nat) : Int)), (19, i64 (l.length : Nat)), (18, intsA l c2), (7, i64 0), (5, cardA s c), (2, .rop [i64 s.lo, i64 s.hi, entsA s.es c] 0), (3, .rop [intsA l c2] 0)]) (H' := []) ⟨rfl, rfl, rfl, rfl, rfl, rfl, rfl, trivial⟩ trivial ?_
    refine Wshrink (nx' := 0) (T' := [(20, i64 ((0 : Nat) : Int)), (19, i64 (l.length : Nat)), (18, intsA l c2), (7, i64 0), (5, cardA s c), (2, .rop [i64 s.lo, i64 s.hi, entsA s.es c] 0), (3, .rop [intsA l c2] 0)]) (H' := []) ⟨rfl, rfl, rfl, rfl, rfl, rfl, rfl, trivial⟩ trivial rfl rfl (by simp) rfl ?_
    refine W_block rfl ?_
    refine Wloop rfl (fun m q => ∃ (k : Nat) (next : Int), k ≤ l.length ∧ 0 ≤ next ∧ m = l.length - k ∧ incrL s.es.length next (l.drop k) = incrL s.es.length 0 l ∧ q = ⟨[(20, i64 (k : Nat)), (19, i64 (l.length : Nat)), (18, intsA l c2), (7, i64 next), (5, cardA s c), (2, .rop [i64 s.lo, i64 s.hi, entsA s.es c] 0), (3, .rop [intsA l c2] 0)], [], 0, []⟩) (n := l.length) ⟨0, 0, Nat.zero_le _, by omega, rfl, rfl, rfl⟩ ?_
    rintro _ _ ⟨k, next, hk, hn0, rfl, hi, rfl⟩
    refine W_seq rfl ?_
    refine W_reg rfl ?_
    refine Rv rfl rfl rfl (U_lss rfl rfl) rfl rfl ?_
    refine Re rfl ?_
    refine thenQ_n ?_
    refine W_seq rfl ?_
    refine WcondP rfl rfl (fun hc0 => ?_) (fun hc0 => ?_)
    · have hc : k < l.length := by omega
      rw [List.drop_eq_getElem_cons hc, incrL] at hi
      refine W_skip rfl ?_
      refine thenQ_n ?_
      refine W_seq rfl ?_
      refine W_block rfl ?_
      refine W_seq rfl ?_
      refine W_reg rfl ?_
      refine Rv rfl rfl rfl (U_indexR rfl rfl rfl hc) rfl rfl ?_
      refine Rv rfl rfl rfl (U_load1 rfl rfl (get1 hc)) rfl rfl ?_
      refine Rv rfl rfl rfl (U_assign rfl) rfl rfl ?_
      refine Re rfl ?_
      refine thenQ_n ?_
      refine W_seq rfl ?_
      refine W_seq rfl ?_
      refine Wjoin ⟨[(33, .bool (decide (l[k] < next) || decide ((s.es.length : Int) ≤ l[k]))), (9, i64 l[k]), (20, i64 (k : Nat)), (19, i64 (l.length : Nat)), (18, intsA l c2), (7, i64 next), (5, cardA s c), (2, .rop [i64 s.lo, i64 s.hi, entsA s.es c] 0), (3, .rop [intsA l c2] 0)], [], 0, []⟩ ?_ ?_
      · refine W_reg rfl ?_
        refine Rv rfl rfl rfl (U_move rfl) rfl rfl ?_
        refine Rv rfl rfl rfl (U_move rfl) rfl rfl ?_
        refine Rv rfl rfl rfl (U_lss rfl rfl) rfl rfl ?_
        refine Rv rfl rfl rfl (U_move rfl) rfl rfl ?_
        refine Rsplit (t := 27) rfl (fun hg8_3 => ?_) (fun hg8_3 => ?_)
        · first
          | (cases hg8_3; done)
          | rw [hg8_3]
            refine Rs rfl rfl rfl rfl rfl ?_
            refine Rs rfl rfl rfl rfl rfl ?_
            refine Rs rfl rfl rfl rfl rfl ?_
            refine Rs rfl rfl rfl rfl rfl ?_
            refine Rs rfl rfl rfl rfl rfl ?_
            first | refine Rv rfl rfl rfl (U_pick_t rfl rfl) rfl rfl ?_ | refine Rv rfl rfl rfl (U_pick_f rfl rfl) rfl rfl ?_ | refine Rv rfl rfl rfl (U_pick_b rfl rfl rfl) rfl rfl ?_
            refine Re rfl ?_
            exact joined ⟨rfl, rfl, rfl, rfl, rfl, rfl, rfl, rfl, rfl, trivial⟩ trivial
        · first
          | (cases hg8_3; done)
          | rw [hg8_3]
            refine Rv rfl rfl rfl (U_move rfl) rfl rfl ?_
            first | refine Rv rfl rfl rfl (U_fieldAddr rfl) rfl rfl ?_ | refine Rv rfl rfl rfl (U_fieldAddrR rfl) rfl rfl ?_
            refine Rv rfl rfl rfl (U_load1 rfl rfl rfl) rfl rfl ?_
            first | refine Rv rfl rfl rfl (U_lenOf rfl len_ros) rfl rfl ?_ | refine Rv rfl rfl rfl (U_lenOf rfl len_slice) rfl rfl ?_ | refine Rv rfl rfl rfl (U_lenOf rfl len_sliceo) rfl rfl ?_ | refine Rv rfl rfl rfl (U_lenOf rfl len_nils) rfl rfl ?_
            refine Rv rfl rfl rfl (U_geq rfl rfl) rfl rfl ?_
            first | refine Rv rfl rfl rfl (U_pick_t rfl rfl) rfl rfl ?_ | refine Rv rfl rfl rfl (U_pick_f rfl rfl) rfl rfl ?_ | refine Rv rfl rfl rfl (U_pick_b rfl rfl rfl) rfl rfl ?_
            refine Re rfl ?_
            exact joined ⟨rfl, rfl, rfl, rfl, rfl, rfl, rfl, rfl, rfl, trivial⟩ trivial
      refine thenQ_n ?_
      refine Wcond rfl rfl (fun hD => ?_) (fun hD => ?_)
      · refine W_seq rfl ?_
        refine W_reg rfl ?_
        refine Rv rfl rfl rfl (U_assign rfl) rfl rfl ?_
        refine Re rfl ?_
        refine thenQ_n ?_
        refine W_ret rfl ?_
        refine thenQ_r ?_
        refine blkQ_r ?_
        refine thenQ_r ?_
        refine thenQ_r ?_
        refine blkQ_r ?_
        refine thenQ_r ?_
        first
          | exact ret1 rfl (by rw [leftS, if_neg h0]) rfl
          | (rw [if_pos hD] at hi; exact ret1 rfl (by rw [leftS, if_pos h0, if_neg (by rw [← hi]; simp)]) rfl)
          | (rw [List.drop_eq_nil_of_le (by omega)] at hi; exact ret1 rfl (by rw [leftS, if_pos h0, if_pos (by rw [← hi]; rfl), if_neg (by simpa using hE)]) rfl)
          | (rw [List.drop_eq_nil_of_le (by omega)] at hi; exact ret1 rfl (by rw [leftS, if_pos h0, if_pos (by rw [← hi]; rfl), if_pos (by simpa using hE)]) rfl)
      · have hD2 := hD
        simp at hD2
        rw [if_neg (by rw [hD]; simp)] at hi
        refine W_skip rfl ?_
        refine thenQ_n ?_
        refine W_reg rfl ?_
        refine Rv rfl rfl rfl (U_move rfl) rfl rfl ?_
        refine Rv rfl rfl rfl (U_add rfl rfl (w64 (by omega) (by omega))) rfl rfl ?_
        refine Rv rfl rfl rfl (U_assign rfl) rfl rfl ?_
        refine Re rfl ?_
        refine blkQ_n ?_
        refine thenQ_n ?_
        refine W_reg rfl ?_
        refine Rv rfl rfl rfl (U_add rfl rfl (w64e (m := ((k + 1 : Nat) : Int)) (by omega) (by omega) (by omega))) rfl rfl ?_
        refine Rv rfl rfl rfl (U_move rfl) rfl rfl ?_
        refine Re rfl ?_
        refine thenQ_n ?_
        exact again (l.length - (k + 1)) (by omega) (T' := [(20, i64 ((k + 1 : Nat) : Int)), (19, i64 (l.length : Nat)), (18, intsA l c2), (7, i64 (l[k] + 1)), (5, cardA s c), (2, .rop [i64 s.lo, i64 s.hi, entsA s.es c] 0), (3, .rop [intsA l c2] 0)]) (H' := []) ⟨rfl, rfl, rfl, rfl, rfl, rfl, rfl, trivial⟩ trivial (⟨k + 1, _, hc, by omega, rfl, hi, rfl⟩)
    · refine W_exit rfl ?_
      refine thenQ_x ?_
      refine thenQ_x ?_
      refine blkQ_x rfl ?_
      refine thenQ_n ?_
      refine W_seq rfl ?_
      refine W_seq rfl ?_
      refine W_reg rfl ?_
      refine Rv rfl rfl rfl (U_move rfl) rfl rfl ?_
      refine Rv rfl rfl rfl (U_makeFunc rfl rfl) rfl rfl ?_
      refine Rv rfl rfl rfl (U_call rfl rfl (without_p s c (by omega) (ca := [.rop [intsA l c2] 0]) rfl (inLeft l) fun i _ => left_p l c2 hl2 i) rfl) rfl rfl ?_
      refine Rv rfl rfl rfl (U_call rfl rfl (has_p (withoutS s (inLeft l)) none (good_without hg _)) rfl) rfl rfl ?_
      refine Rv rfl rfl rfl (U_not rfl) rfl rfl ?_
      refine Re rfl ?_
      refine thenQ_n ?_
      refine Wcond rfl rfl (fun hE => ?_) (fun hE => ?_)
      · refine W_seq rfl ?_
        refine W_reg rfl ?_
        refine Rv rfl rfl rfl (U_assign rfl) rfl rfl ?_
        refine Re rfl ?_
        refine thenQ_n ?_
        refine W_ret rfl ?_
        refine thenQ_r ?_
        first
          | exact ret1 rfl (by rw [leftS, if_neg h0]) rfl
          | (rw [if_pos hD] at hi; exact ret1 rfl (by rw [leftS, if_pos h0, if_neg (by rw [← hi]; simp)]) rfl)
          | (rw [List.drop_eq_nil_of_le (by omega)] at hi; exact ret1 rfl (by rw [leftS, if_pos h0, if_pos (by rw [← hi]; rfl), if_neg (by simpa using hE)]) rfl)
          | (rw [List.drop_eq_nil_of_le (by omega)] at hi; exact ret1 rfl (by rw [leftS, if_pos h0, if_pos (by rw [← hi]; rfl), if_pos (by simpa using hE)]) rfl)
      · refine W_skip rfl ?_
        refine thenQ_n ?_
        refine W_seq rfl ?_
        refine W_reg rfl ?_
        refine Rv rfl rfl rfl (U_assign rfl) rfl rfl ?_
        refine Re rfl ?_
        refine thenQ_n ?_
        refine W_ret rfl ?_
        first
          | exact ret1 rfl (by rw [leftS, if_neg h0]) rfl
          | (rw [if_pos hD] at hi; exact ret1 rfl (by rw [leftS, if_pos h0, if_neg (by rw [← hi]; simp)]) rfl)
          | (rw [List.drop_eq_nil_of_le (by omega)] at hi; exact ret1 rfl (by rw [leftS, if_pos h0, if_pos (by rw [← hi]; rfl), if_neg (by simpa using hE)]) rfl)
          | (rw [List.drop_eq_nil_of_le (by omega)] at hi; exact ret1 rfl (by rw [leftS, if_pos h0, if_pos (by rw [← hi]; rfl), if_pos (by simpa using hE)]) rfl)
end Go.Proofs.Ytapappdgdiaijaa
end

section
/- Contracts of package drift: the greatest place in a year. -/
namespace Go.Proofs.Ytapappdgdiaijaa
set_option maxRecDepth 20000
open Go.AE
def ratC (q : Int × Int) : List AV := [i64 q.1, i64 q.2]
theorem rat0 {l : List (Int × Int)} {k : Nat} (h : k < l.length) : (l.flatMap ratC)[k * 2]? = some (i64 l[k].1) := by have := flat_get (f := ratC) (z := 2) (fun _ => rfl) h 0 (by omega); simpa [ratC] using this
theorem rat1 {l : List (Int × Int)} {k : Nat} (h : k < l.length) : (l.flatMap ratC)[k * 2 + 1]? = some (i64 l[k].2) := by have := flat_get (f := ratC) (z := 2) (fun _ => rfl) h 1 (by omega); simpa [ratC] using this
abbrev ratsA (l : List (Int × Int)) (c : Option Nat) : AV := .ros (l.flatMap ratC) l.length c
/-- What an entry lets the greatest place be, with the least or the greatest rate. -/
def placE (s : Star) (year : Int) (e : Ent) : Int × Int := carriedQ (frac e.hi 1) (if e.y < year then endQ s true else endQ s false) (year - e.y)
/-- .. the line through two entries. -/
def lineE (year : Int) (f e : Ent) : Int × Int := frac (f.hi * (e.y - year) + e.hi * (year - f.y)) (e.y - f.y)
def lineO (year : Int) (e f : Ent) : Option (Int × Int) := if (decide (year < f.y) || decide (e.y < year)) = true then none else some (lineE year f e)
theorem lineO_t {year : Int} {e f : Ent} (h : (decide (year < f.y) || decide (e.y < year)) = true) : lineO year e f = none := by simp only [lineO, h, if_true]
theorem lineO_f {year : Int} {e f : Ent} (h : (decide (year < f.y) || decide (e.y < year)) = false) : lineO year e f = some (lineE year f e) := by simp only [lineO, h, Bool.false_eq_true, if_false]
def rowH (s : Star) (year : Int) (i : Nat) : List (Int × Int) := match s.es[i]? with
  | some e => placE s year e :: (s.es.take i).filterMap (lineO year e)
  | none => []
def allH (s : Star) (year : Int) (n : Nat) : List (Int × Int) := (List.range n).flatMap (rowH s year)
theorem allH_succ {s : Star} {year : Int} {i : Nat} (h : i < s.es.length) : allH s year (i + 1) = allH s year i ++ placE s year s.es[i] :: (s.es.take i).filterMap (lineO year s.es[i]) := by
  unfold allH
  rw [List.range_succ, List.flatMap_append, List.flatMap_singleton, rowH, List.getElem?_eq_getElem h]
theorem allH_len (s : Star) (year : Int) : ∀ n, s.es.length ≤ 20 → n ≤ s.es.length → (allH s year n).length ≤ n * 100
  | 0, _, _ => by simp [allH]
  | n + 1, h1, h2 => by
    have ih := allH_len s year n h1 (by omega)
    have h3 := List.length_filterMap_le (lineO year s.es[n]) (s.es.take n)
    rw [allH_succ (by omega), List.length_append, List.length_cons]
    simp only [List.length_take] at h3
    omega
theorem allH_pos (s : Star) (year : Int) (n : Nat) (h : 0 < n) (h2 : n ≤ s.es.length) : 0 < (allH s year n).length := by
  obtain ⟨m, rfl⟩ : ∃ m, n = m + 1 := ⟨n - 1, by omega⟩
  rw [allH_succ (by omega), List.length_append, List.length_cons]; omega
theorem bd_up {q : Int × Int} (h : Bd 20000 200 q) : Bd 1000000000 40000 q := by obtain ⟨h1, h2, h3, h4⟩ := h; exact ⟨by omega, by omega, h3, by omega⟩
theorem bd_le {N D N' D' : Int} {q : Int × Int} (h : Bd N D q) (h1 : N ≤ N') (h2 : D ≤ D') : Bd N' D' q := by obtain ⟨a, b, c, d⟩ := h; exact ⟨by omega, by omega, c, by omega⟩
theorem frac_one (n : Int) : frac n 1 = (n, 1) := by simp [frac]
theorem carried_bd {n d N : Int} {v : Int × Int} {y : Int} (hv : Bd N d v) (hn : -10000 ≤ n ∧ n ≤ 10000) (hy : -200 ≤ y ∧ y ≤ 200) (hd : d ≤ 200) (hN : N ≤ 20000) : Bd 6000000 d (carriedQ (frac n 1) v y) := by
  obtain ⟨h1, h2, h3, h4⟩ := hv
  rw [frac_one]; unfold carriedQ
  have m1 := mulB (a := n) (b := v.2) (A := 10000) (B := 200) (by omega) (by omega) (by omega) (by omega)
  have m2 := mulB (a := v.1) (b := y) (A := 20000) (B := 200) (by omega) (by omega) (by omega) (by omega)
  exact frac_bd (by simp only [Int.mul_one]; omega) (by simp only [Int.mul_one]; omega) (by simp only [Int.one_mul]; omega) (by simp only [Int.one_mul]; omega)
theorem placE_bd {s : Star} (hg : Good s) {year : Int} (hy : 0 ≤ year ∧ year ≤ 200) {i : Nat} (hi : i < s.es.length) : Bd 6000000 200 (placE s year s.es[i]) := by
  have he := hg.es i hi
  unfold placE
  refine carried_bd (N := 20000) ?_ (by omega) (by omega) (by omega) (by omega)
  split <;> exact end_bd hg _
theorem lineE_bd {s : Star} (hg : Good s) {year : Int} {i k : Nat} (hik : i < k) (hk : k < s.es.length) (h1 : s.es[i].y ≤ year) (h2 : year ≤ s.es[k].y) : Bd 6000000 200 (lineE year s.es[i] s.es[k]) := by
  have e1 := hg.es i (by omega); have e2 := hg.es k hk; have e3 := hg.inc i k hik hk
  unfold lineE
  have m1 := mulB (a := s.es[i].hi) (b := s.es[k].y - year) (A := 10000) (B := 200) (by omega) (by omega) (by omega) (by omega)
  have m2 := mulB (a := s.es[k].hi) (b := year - s.es[i].y) (A := 10000) (B := 200) (by omega) (by omega) (by omega) (by omega)
  exact frac_bd (by omega) (by omega) (by omega) (by omega)
theorem mem_row {s : Star} {year : Int} {k : Nat} {q : Int × Int} (h : q ∈ rowH s year k) : ∃ hk : k < s.es.length, q = placE s year s.es[k] ∨ ∃ i, ∃ hi : i < k, s.es[i].y ≤ year ∧ year ≤ s.es[k].y ∧ q = lineE year s.es[i] s.es[k] := by
  unfold rowH at h
  split at h
  · rename_i e he
    obtain ⟨hk, rfl⟩ := List.getElem?_eq_some_iff.1 he
    refine ⟨hk, ?_⟩
    rcases List.mem_cons.1 h with h | h
    · exact .inl h
    · obtain ⟨f, hf, hq⟩ := List.mem_filterMap.1 h
      obtain ⟨i, hi, rfl⟩ := List.getElem_of_mem hf
      simp only [List.length_take] at hi
      simp only [List.getElem_take] at hq
      unfold lineO at hq
      split at hq
      · cases hq
      · rename_i hn
        cases hq
        simp at hn
        exact .inr ⟨i, by omega, hn.1, hn.2, rfl⟩
  · simp at h
theorem allH_bd {s : Star} (hg : Good s) {year : Int} (hy : 0 ≤ year ∧ year ≤ 200) (n : Nat) : ∀ q ∈ allH s year n, Bd 6000000 200 q := by
  intro q hq
  obtain ⟨k, _, hm⟩ := List.mem_flatMap.1 hq
  obtain ⟨hk, rfl | ⟨i, hi, h1, h2, rfl⟩⟩ := mem_row hm
  · exact placE_bd hg hy hk
  · exact lineE_bd hg hi hk h1 h2
def lessOf (out x : Int × Int) : Int × Int := if lessQ x out = true then x else out
def highQ (s : Star) (year : Int) : Int × Int := (allH s year s.es.length).foldl lessOf ((allH s year s.es.length).getD 0 (0, 0))
theorem highest_p (s : Star) (c : Option Nat) (hg : Good s) (h0 : 0 < s.es.length) (year : Int) (hy : 0 ≤ year ∧ year ≤ 200) : Pure Try.prog 87 [cardA s c, i64 year] (ratA (highQ s year)) := by
  have hlen := hg.len
  refine pure_of_body Try.func87 (c := body Try.f87) rfl (by simp [Try.ntmps87]) fun w0 Φ0 => ?_
  refine W_seq rfl ?_
  refine W_reg rfl ?_
  refine Ra rfl rfl rfl (U_alloc) rfl rfl rfl ?_
  refine Re rfl ?_
  refine thenQ_n ?_
  refine W_seq rfl ?_
  refine W_reg rfl ?_
  refine Rv rfl rfl rfl (U_move rfl) rfl rfl ?_
  refine Rv rfl rfl rfl (U_call rfl rfl (end_p s c (by assumption) false) rfl) rfl rfl ?_
  refine Rv rfl rfl rfl (U_move rfl) rfl rfl ?_
  refine Rv rfl rfl rfl (U_call rfl rfl (end_p s c (by assumption) true) rfl) rfl rfl ?_
  refine Rv rfl rfl rfl (U_build rfl rfl) rfl rfl ?_
  refine Ra rfl rfl rfl (U_alloc) rfl rfl rfl ?_
  refine Rn rfl rfl rfl (U_storeAll rfl rfl rfl rfl rfl rfl) rfl ?_
  refine Re rfl ?_
  refine thenQ_n ?_
  refine WfrN 1 rfl rfl (T' := [(0, .rop [i64 s.lo, i64 s.hi, .ros (s.es.flatMap entC) s.es.length c] 0), (1, i64 year), (4, .ptr 0 0), (5, .rop [i64 ((endQ s false).1), i64 ((endQ s false).2), i64 ((endQ s true).1), i64 ((endQ s true).2)] 0)]) (H' := [(0, some (.cells [i64 0, i64 0] 28))]) ⟨⟨_, rfl, rfl⟩, ⟨_, rfl, rfl⟩, ⟨_, rfl, rfl⟩, ⟨_, rfl, rfl⟩, trivial⟩ ⟨⟨rfl, rF rfl rfl⟩, trivial⟩ ?_
  refine W_seq rfl ?_
  refine W_reg rfl ?_
  refine Rv rfl rfl rfl (U_assign rfl) rfl rfl ?_
  refine Re rfl ?_
  refine thenQ_n ?_
  refine W_seq rfl ?_
  refine W_seq rfl ?_
  refine W_reg rfl ?_
  refine Rv rfl rfl rfl (U_move rfl) rfl rfl ?_
  refine Rv rfl rfl rfl (U_nilCheckR rfl) rfl rfl ?_
  refine Rv rfl rfl rfl (U_fieldAddrR rfl) rfl rfl ?_
  refine Rv rfl rfl rfl (U_fieldAddrR rfl) rfl rfl ?_
  refine Rv rfl rfl rfl (U_load1 rfl rfl rfl) rfl rfl ?_
  refine Rv rfl rfl rfl (U_lenOf rfl len_ros) rfl rfl ?_
  refine Rv rfl rfl rfl (U_move rfl) rfl rfl ?_
  refine Re rfl ?_
  refine thenQ_n ?_
  refine W_block rfl ?_
  refine LoopTo (T' := [(0, .rop [i64 s.lo, i64 s.hi, .ros (s.es.flatMap entC) s.es.length c] 0), (1, i64 year), (4, .ptr 0 0), (5, .rop [i64 ((endQ s false).1), i64 ((endQ s false).2), i64 ((endQ s true).1), i64 ((endQ s true).2)] 0), (6, .out 1 [].length 2), (24, .ros (s.es.flatMap entC) s.es.length c), (25, i64 ((s.es.length : Nat) : Int)), (26, i64 ((0 : Nat) : Int))]) (H' := [(0, some (.cells [i64 0, i64 0] 28)), (1, outB ([].flatMap ratC) 28 [].length)]) (n := 2) rfl (fun mz_ qz_ => ∃ (k : Nat) (l : List (Int × Int)), k ≤ s.es.length ∧ l = allH s year k ∧ mz_ = s.es.length - k ∧ qz_ = ⟨[(0, .rop [i64 s.lo, i64 s.hi, .ros (s.es.flatMap entC) s.es.length c] 0), (1, i64 year), (4, .ptr 0 0), (5, .rop [i64 ((endQ s false).1), i64 ((endQ s false).2), i64 ((endQ s true).1), i64 ((endQ s true).2)] 0), (6, .out 1 l.length 2), (24, .ros (s.es.flatMap entC) s.es.length c), (25, i64 ((s.es.length : Nat) : Int)), (26, i64 ((k : Nat) : Int))], [(0, some (.cells [i64 0, i64 0] 28)), (1, outB (l.flatMap ratC) 28 l.length)], 2, []⟩) ⟨0, [], (by omega), rfl, rfl, rfl⟩ id ⟨eD rfl rfl, eD rfl rfl, e_ rfl rfl, eD rfl rfl, eW rfl le_nils_out rfl, eD rfl rfl, eD rfl rfl, eD rfl rfl, trivial⟩ ⟨rD rfl rfl rfl, rO0 rfl, trivial⟩ rfl rfl rfl rfl (fun _ _ => rfl) ?_
  rintro _ _ ⟨k, l, hi0_0, hi0_1, rfl, rfl⟩
  refine W_seq rfl ?_
  refine W_reg rfl ?_
  refine Rv rfl rfl rfl (U_lss rfl rfl) rfl rfl ?_
  refine Re rfl ?_
  refine thenQ_n ?_
  refine W_seq rfl ?_
  refine WcondP rfl rfl (fun hc0 => ?_) (fun hc0 => ?_)
  · have hck : k < s.es.length := by omega
    have he := hg.es k hck
    refine W_skip rfl ?_
    refine thenQ_n ?_
    refine W_seq rfl ?_
    refine W_block rfl ?_
    refine W_seq rfl ?_
    refine W_reg rfl ?_
    refine Rv rfl rfl rfl (U_move rfl) rfl rfl ?_
    have hx1 : k < s.es.length := by omega
    refine Rv rfl rfl rfl (U_indexR (j := k) rfl rfl rfl hx1) rfl rfl ?_
    refine Rv rfl rfl rfl (U_load3 rfl rfl (ent0 hx1) (ent1 hx1) (ent2 hx1)) rfl rfl ?_
    refine Ra rfl rfl rfl (U_alloc) rfl rfl rfl ?_
    refine Rv rfl rfl rfl (U_assign rfl) rfl rfl ?_
    refine Rn rfl rfl rfl (U_storeAll rfl rfl rfl rfl rfl rfl) rfl ?_
    refine Re rfl ?_
    refine thenQ_n ?_
    refine WfrN 2 rfl rfl (T' := [(0, .rop [i64 s.lo, i64 s.hi, .ros (s.es.flatMap entC) s.es.length c] 0), (1, i64 year), (4, .ptr 0 0), (5, .rop [i64 ((endQ s false).1), i64 ((endQ s false).2), i64 ((endQ s true).1), i64 ((endQ s true).2)] 0), (6, .out 1 l.length 2), (7, i64 ((k : Nat) : Int)), (8, .rop [i64 s.es[k].y, i64 s.es[k].lo, i64 s.es[k].hi] 0), (24, .ros (s.es.flatMap entC) s.es.length c), (25, i64 ((s.es.length : Nat) : Int)), (26, i64 ((k : Nat) : Int))]) (H' := [(0, some (.cells [i64 0, i64 0] 28)), (1, outB (l.flatMap ratC) 28 l.length)]) ⟨⟨_, rfl, rfl⟩, ⟨_, rfl, rfl⟩, ⟨_, rfl, rfl⟩, ⟨_, rfl, rfl⟩, ⟨_, rfl, rfl⟩, ⟨_, rfl, rfl⟩, ⟨_, rfl, rfl⟩, ⟨_, rfl, rfl⟩, ⟨_, rfl, rfl⟩, ⟨_, rfl, rfl⟩, trivial⟩ ⟨⟨rfl, rF rfl rfl⟩, ⟨rfl, rFO (flatD (fun _ => rfl) _) rfl⟩, trivial⟩ ?_
    refine W_scope rfl ?_
    refine W_seq rfl ?_
    refine W_reg rfl ?_
    refine Rv rfl rfl rfl (U_indexAR (j := 0) rfl rfl rfl (by decide)) rfl rfl ?_
    refine Rv rfl rfl rfl (U_load2 rfl rfl rfl rfl) rfl rfl ?_
    refine Ra rfl rfl rfl (U_alloc) rfl rfl rfl ?_
    refine Rn rfl rfl rfl (U_storeAll rfl rfl rfl rfl rfl rfl) rfl ?_
    refine Re rfl ?_
    refine thenQ_n ?_
    refine W_seq rfl ?_
    refine W_seq rfl ?_
    refine W_reg rfl ?_
    refine Rv rfl rfl rfl (U_fieldAddrR rfl) rfl rfl ?_
    refine Rv rfl rfl rfl (U_load1 rfl rfl rfl) rfl rfl ?_
    refine Rv rfl rfl rfl (U_move rfl) rfl rfl ?_
    refine Rv rfl rfl rfl (U_lss rfl rfl) rfl rfl ?_
    refine Re rfl ?_
    refine thenQ_n ?_
    refine Wjoin ⟨[(0, .rop [i64 s.lo, i64 s.hi, .ros (s.es.flatMap entC) s.es.length c] 0), (1, i64 year), (4, .ptr 0 0), (5, .rop [i64 ((endQ s false).1), i64 ((endQ s false).2), i64 ((endQ s true).1), i64 ((endQ s true).2)] 0), (6, .out 1 l.length 2), (7, i64 ((k : Nat) : Int)), (8, .rop [i64 s.es[k].y, i64 s.es[k].lo, i64 s.es[k].hi] 0), (9, .ptr 3 0), (24, .ros (s.es.flatMap entC) s.es.length c), (25, i64 ((s.es.length : Nat) : Int)), (26, i64 ((k : Nat) : Int))], [(0, some (.cells [i64 0, i64 0] 28)), (1, outB (l.flatMap ratC) 28 l.length), (3, some (.cells [i64 ((if s.es[k].y < year then (endQ s true) else (endQ s false)).1), i64 ((if s.es[k].y < year then (endQ s true) else (endQ s false)).2)] 28))], 4, []⟩ ?_ ?_
    · refine WcondP rfl rfl (fun hr => ?_) (fun hr => ?_)
      · refine W_reg rfl ?_
        refine Rv rfl rfl rfl (U_indexAR (j := 1) rfl rfl rfl (by decide)) rfl rfl ?_
        refine Rv rfl rfl rfl (U_load2 rfl rfl rfl rfl) rfl rfl ?_
        refine Rn rfl rfl rfl (U_storeAll rfl rfl rfl rfl rfl rfl) rfl ?_
        refine Re rfl ?_
        exact joinTo id ⟨eD rfl rfl, eD rfl rfl, e_ rfl rfl, eD rfl rfl, e_ rfl rfl, eD rfl rfl, eD rfl rfl, e_ rfl rfl, eD rfl rfl, eD rfl rfl, eD rfl rfl, trivial⟩ ⟨rD rfl rfl rfl, rO (flatD (fun _ => rfl) _) rfl rfl, rD rfl (by first | rfl | (rw [if_pos hr]; rfl) | (rw [if_neg hr]; rfl)) rfl, trivial⟩ rfl rfl rfl rfl (fun _ _ => rfl)
      · refine W_skip rfl ?_
        exact joinTo id ⟨eD rfl rfl, eD rfl rfl, e_ rfl rfl, eD rfl rfl, e_ rfl rfl, eD rfl rfl, eD rfl rfl, e_ rfl rfl, eD rfl rfl, eD rfl rfl, eD rfl rfl, trivial⟩ ⟨rD rfl rfl rfl, rO (flatD (fun _ => rfl) _) rfl rfl, rD rfl (by first | rfl | (rw [if_pos hr]; rfl) | (rw [if_neg hr]; rfl)) rfl, trivial⟩ rfl rfl rfl rfl (fun _ _ => rfl)
    refine thenQ_n ?_
    refine W_seq rfl ?_
    refine Wjoin ⟨[(0, .rop [i64 s.lo, i64 s.hi, .ros (s.es.flatMap entC) s.es.length c] 0), (1, i64 year), (4, .ptr 0 0), (5, .rop [i64 ((endQ s false).1), i64 ((endQ s false).2), i64 ((endQ s true).1), i64 ((endQ s true).2)] 0), (6, .out 4 ((l ++ [(carriedQ (frac s.es[k].hi 1) (if s.es[k].y < year then (endQ s true) else (endQ s false)) (year - s.es[k].y))]).length) 2), (7, i64 ((k : Nat) : Int)), (8, .rop [i64 s.es[k].y, i64 s.es[k].lo, i64 s.es[k].hi] 0), (24, .ros (s.es.flatMap entC) s.es.length c), (25, i64 ((s.es.length : Nat) : Int)), (26, i64 ((k : Nat) : Int))], [(0, some (.cells [i64 0, i64 0] 28)), (4, outB ((l ++ [(carriedQ (frac s.es[k].hi 1) (if s.es[k].y < year then (endQ s true) else (endQ s false)) (year - s.es[k].y))]).flatMap ratC) 28 ((l ++ [(carriedQ (frac s.es[k].hi 1) (if s.es[k].y < year then (endQ s true) else (endQ s false)) (year - s.es[k].y))]).length))], 5, []⟩ ?_ ?_
    · rcases Nat.eq_zero_or_pos l.length with hz2 | hz2
      · refine Wdraw rfl (by kernel_rfl) (by kernel_rfl) ?_
        refine Dv rfl rfl rfl (U_move rfl) rfl rfl ?_
        refine Dv rfl rfl rfl (U_fieldAddrR rfl) rfl rfl ?_
        refine Dv rfl rfl rfl (U_fieldAddrR rfl) rfl rfl ?_
        refine Dv rfl rfl rfl (U_load1 rfl rfl rfl) rfl rfl ?_
        refine Dv rfl rfl rfl (U_call rfl rfl (frac_p s.es[k].hi 1 (by omega) (by omega)) rfl) rfl rfl ?_
        refine Dv rfl rfl rfl (U_load2 rfl rfl rfl rfl) rfl rfl ?_
        refine Dv rfl rfl rfl (U_move rfl) rfl rfl ?_
        refine Dv rfl rfl rfl (U_fieldAddrR rfl) rfl rfl ?_
        refine Dv rfl rfl rfl (U_load1 rfl rfl rfl) rfl rfl ?_
        refine Dv rfl rfl rfl (U_sub rfl rfl (w64 (by omega) (by omega))) rfl rfl ?_
        have hb1 : Bd 1000000000 40000 (frac s.es[k].hi 1) := frac_bd (by omega) (by omega) (by omega) (by omega)
        have hb2 : Bd 1000000000 40000 (if s.es[k].y < year then endQ s true else endQ s false) := by split <;> exact bd_up (end_bd hg _)
        refine Dv rfl rfl rfl (U_call rfl rfl (carried_p (frac s.es[k].hi 1) (if s.es[k].y < year then (endQ s true) else (endQ s false)) (year - s.es[k].y) (by assumption) (by assumption) (by omega)) rfl) rfl rfl ?_
        refine Dv rfl rfl rfl (U_buildSliceF (by rfl) (by decide) rfl rfl rfl) rfl rfl ?_
        have hll : l.length ≤ 2000 := by rw [hi0_1]; have := allH_len s year k hlen (by omega); omega
        refine Da rfl rfl rfl (U_appO0 (b := 1) (cs := (l.flatMap ratC)) (m := 0) (cs' := (l ++ [(carriedQ (frac s.es[k].hi 1) (if s.es[k].y < year then (endQ s true) else (endQ s false)) (year - s.es[k].y))]).flatMap ratC) (n' := (l ++ [(carriedQ (frac s.es[k].hi 1) (if s.es[k].y < year then (endQ s true) else (endQ s false)) (year - s.es[k].y))]).length) rfl hz2 rfl (by simp) (flat_len (z := 2) (fun _ => rfl) _) rfl (by omega) (appF _ _) (len1 _ _)) rfl rfl rfl rfl ?_
        refine Dv rfl rfl rfl (U_assign rfl) rfl rfl ?_
        refine Dr.nil rfl ?_
        exact joinTo id ⟨eD rfl rfl, eD rfl rfl, e_ rfl rfl, eD rfl rfl, e_ rfl rfl, eD rfl rfl, eD rfl rfl, eD rfl rfl, eD rfl rfl, eD rfl rfl, trivial⟩ ⟨rD rfl rfl rfl, rO (flatD (fun _ => rfl) _) rfl rfl, trivial⟩ rfl rfl rfl rfl (fun _ _ => rfl)
      · refine Wdraw rfl (by kernel_rfl) (by kernel_rfl) ?_
        refine Dv rfl rfl rfl (U_move rfl) rfl rfl ?_
        refine Dv rfl rfl rfl (U_fieldAddrR rfl) rfl rfl ?_
        refine Dv rfl rfl rfl (U_fieldAddrR rfl) rfl rfl ?_
        refine Dv rfl rfl rfl (U_load1 rfl rfl rfl) rfl rfl ?_
        refine Dv rfl rfl rfl (U_call rfl rfl (frac_p s.es[k].hi 1 (by omega) (by omega)) rfl) rfl rfl ?_
        refine Dv rfl rfl rfl (U_load2 rfl rfl rfl rfl) rfl rfl ?_
        refine Dv rfl rfl rfl (U_move rfl) rfl rfl ?_
        refine Dv rfl rfl rfl (U_fieldAddrR rfl) rfl rfl ?_
        refine Dv rfl rfl rfl (U_load1 rfl rfl rfl) rfl rfl ?_
        refine Dv rfl rfl rfl (U_sub rfl rfl (w64 (by omega) (by omega))) rfl rfl ?_
        have hb1 : Bd 1000000000 40000 (frac s.es[k].hi 1) := frac_bd (by omega) (by omega) (by omega) (by omega)
        have hb2 : Bd 1000000000 40000 (if s.es[k].y < year then endQ s true else endQ s false) := by split <;> exact bd_up (end_bd hg _)
        refine Dv rfl rfl rfl (U_call rfl rfl (carried_p (frac s.es[k].hi 1) (if s.es[k].y < year then (endQ s true) else (endQ s false)) (year - s.es[k].y) (by assumption) (by assumption) (by omega)) rfl) rfl rfl ?_
        refine Dv rfl rfl rfl (U_buildSliceF (by rfl) (by decide) rfl rfl rfl) rfl rfl ?_
        have hll : l.length ≤ 2000 := by rw [hi0_1]; have := allH_len s year k hlen (by omega); omega
        refine Da rfl rfl rfl (U_appO (b := 1) (m := 0) (cs' := (l ++ [(carriedQ (frac s.es[k].hi 1) (if s.es[k].y < year then (endQ s true) else (endQ s false)) (year - s.es[k].y))]).flatMap ratC) (n' := (l ++ [(carriedQ (frac s.es[k].hi 1) (if s.es[k].y < year then (endQ s true) else (endQ s false)) (year - s.es[k].y))]).length) rfl rfl (by simp) rfl (flat_len (z := 2) (fun _ => rfl) _) rfl rfl (by omega) (appF _ _) (len1 _ _)) rfl rfl rfl (upsO rfl hz2) ?_
        refine Dv rfl rfl rfl (U_assign rfl) rfl rfl ?_
        refine Dr.nil rfl ?_
        exact joinTo id ⟨eD rfl rfl, eD rfl rfl, e_ rfl rfl, eD rfl rfl, e_ rfl rfl, eD rfl rfl, eD rfl rfl, eD rfl rfl, eD rfl rfl, eD rfl rfl, trivial⟩ ⟨rD rfl rfl rfl, rO (flatD (fun _ => rfl) _) rfl rfl, trivial⟩ rfl rfl rfl rfl (fun _ _ => rfl)
    refine thenQ_n ?_
    refine W_seq rfl ?_
    refine W_label rfl ?_
    refine thenQ_n ?_
    refine W_seq rfl ?_
    refine W_reg rfl ?_
    refine Rv rfl rfl rfl (U_move rfl) rfl rfl ?_
    refine Rv rfl rfl rfl (U_nilCheckR rfl) rfl rfl ?_
    refine Rv rfl rfl rfl (U_fieldAddrR rfl) rfl rfl ?_
    refine Rv rfl rfl rfl (U_fieldAddrR rfl) rfl rfl ?_
    refine Rv rfl rfl rfl (U_load1 rfl rfl rfl) rfl rfl ?_
    refine Rv rfl rfl rfl (U_move rfl) rfl rfl ?_
    have hs3 : k ≤ s.es.length := by omega
    refine Rv rfl rfl rfl (U_sliceToL rfl rfl hs3 (flatD (fun _ => rfl) _) (takeF (z := 3) (fun _ => rfl) _ _)) rfl rfl ?_
    refine Rv rfl rfl rfl (U_lenOf rfl len_ros) rfl rfl ?_
    refine Rv rfl rfl rfl (U_move rfl) rfl rfl ?_
    refine Re rfl ?_
    refine thenQ_n ?_
    refine W_block rfl ?_
    refine LoopTo (T' := [(0, .rop [i64 s.lo, i64 s.hi, .ros (s.es.flatMap entC) s.es.length c] 0), (1, i64 year), (4, .ptr 0 0), (5, .rop [i64 ((endQ s false).1), i64 ((endQ s false).2), i64 ((endQ s true).1), i64 ((endQ s true).2)] 0), (6, .out 1 (l ++ [(carriedQ (frac s.es[k].hi 1) (if s.es[k].y < year then (endQ s true) else (endQ s false)) (year - s.es[k].y))]).length 2), (8, .rop [i64 s.es[k].y, i64 s.es[k].lo, i64 s.es[k].hi] 0), (24, .ros (s.es.flatMap entC) s.es.length c), (25, i64 ((s.es.length : Nat) : Int)), (26, i64 ((k : Nat) : Int)), (58, .ros ((s.es.take k).flatMap entC) k none), (59, i64 ((k : Nat) : Int)), (60, i64 ((0 : Nat) : Int))]) (H' := [(0, some (.cells [i64 0, i64 0] 28)), (1, outB ((l ++ [(carriedQ (frac s.es[k].hi 1) (if s.es[k].y < year then (endQ s true) else (endQ s false)) (year - s.es[k].y))]).flatMap ratC) 28 (l ++ [(carriedQ (frac s.es[k].hi 1) (if s.es[k].y < year then (endQ s true) else (endQ s false)) (year - s.es[k].y))]).length)]) (n := 2) rfl (fun mz_ qz_ => ∃ (i : Nat) (l2 : List (Int × Int)), i ≤ k ∧ l2 = l ++ placE s year s.es[k] :: ((s.es.take k).take i).filterMap (lineO year s.es[k]) ∧ mz_ = k - i ∧ qz_ = ⟨[(0, .rop [i64 s.lo, i64 s.hi, .ros (s.es.flatMap entC) s.es.length c] 0), (1, i64 year), (4, .ptr 0 0), (5, .rop [i64 ((endQ s false).1), i64 ((endQ s false).2), i64 ((endQ s true).1), i64 ((endQ s true).2)] 0), (6, .out 1 l2.length 2), (8, .rop [i64 s.es[k].y, i64 s.es[k].lo, i64 s.es[k].hi] 0), (24, .ros (s.es.flatMap entC) s.es.length c), (25, i64 ((s.es.length : Nat) : Int)), (26, i64 ((k : Nat) : Int)), (58, .ros ((s.es.take k).flatMap entC) k none), (59, i64 ((k : Nat) : Int)), (60, i64 ((i : Nat) : Int))], [(0, some (.cells [i64 0, i64 0] 28)), (1, outB (l2.flatMap ratC) 28 l2.length)], 2, []⟩) ⟨0, l ++ [(carriedQ (frac s.es[k].hi 1) (if s.es[k].y < year then (endQ s true) else (endQ s false)) (year - s.es[k].y))], (by omega), (by simp [placE]), rfl, rfl⟩ (mapN [0, 4]) ⟨eD rfl rfl, eD rfl rfl, e_ rfl rfl, eD rfl rfl, e_ rfl rfl, eD rfl rfl, eD rfl rfl, eD rfl rfl, eD rfl rfl, eD rfl rfl, eD rfl rfl, eD rfl rfl, trivial⟩ ⟨rD rfl rfl rfl, rO (flatD (fun _ => rfl) _) rfl rfl, trivial⟩ rfl rfl rfl rfl (fun _ h => absurd h (Nat.not_lt_zero _)) ?_
    rintro _ _ ⟨i, l2, hi1_0, hi1_1, rfl, rfl⟩
    refine W_seq rfl ?_
    refine W_reg rfl ?_
    refine Rv rfl rfl rfl (U_lss rfl rfl) rfl rfl ?_
    refine Re rfl ?_
    refine thenQ_n ?_
    refine W_seq rfl ?_
    refine WcondP rfl rfl (fun hc2 => ?_) (fun hc2 => ?_)
    · have htl : (s.es.take k).length = k := by simp; omega
      have hj : i < (s.es.take k).length := by omega
      have hjt : (s.es.take k)[i] = s.es[i] := List.getElem_take
      have hf := hg.es i (by omega)
      rw [← hjt] at hf
      have hfi := hg.inc i k (by omega) hck
      rw [← hjt] at hfi
      refine W_skip rfl ?_
      refine thenQ_n ?_
      refine W_seq rfl ?_
      refine W_block rfl ?_
      refine W_seq rfl ?_
      refine W_reg rfl ?_
      have hx4 : i < (s.es.take k).length := by omega
      refine Rv rfl rfl rfl (U_indexR (j := i) rfl rfl rfl (by omega)) rfl rfl ?_
      refine Rv rfl rfl rfl (U_load3 rfl rfl (ent0 hx4) (ent1 hx4) (ent2 hx4)) rfl rfl ?_
      refine Ra rfl rfl rfl (U_alloc) rfl rfl rfl ?_
      refine Rn rfl rfl rfl (U_storeAll rfl rfl rfl rfl rfl rfl) rfl ?_
      refine Re rfl ?_
      refine thenQ_n ?_
      refine WfrN 2 rfl rfl (T' := [(0, .rop [i64 s.lo, i64 s.hi, .ros (s.es.flatMap entC) s.es.length c] 0), (1, i64 year), (4, .ptr 0 0), (5, .rop [i64 ((endQ s false).1), i64 ((endQ s false).2), i64 ((endQ s true).1), i64 ((endQ s true).2)] 0), (6, .out 1 l2.length 2), (8, .rop [i64 s.es[k].y, i64 s.es[k].lo, i64 s.es[k].hi] 0), (11, .rop [i64 (((s.es.take k)[i]).y), i64 (((s.es.take k)[i]).lo), i64 (((s.es.take k)[i]).hi)] 0), (24, .ros (s.es.flatMap entC) s.es.length c), (25, i64 ((s.es.length : Nat) : Int)), (26, i64 ((k : Nat) : Int)), (58, .ros ((s.es.take k).flatMap entC) k none), (59, i64 ((k : Nat) : Int)), (60, i64 ((i : Nat) : Int))]) (H' := [(0, some (.cells [i64 0, i64 0] 28)), (1, outB (l2.flatMap ratC) 28 l2.length)]) ⟨⟨_, rfl, rfl⟩, ⟨_, rfl, rfl⟩, ⟨_, rfl, rfl⟩, ⟨_, rfl, rfl⟩, ⟨_, rfl, rfl⟩, ⟨_, rfl, rfl⟩, ⟨_, rfl, rfl⟩, ⟨_, rfl, rfl⟩, ⟨_, rfl, rfl⟩, ⟨_, rfl, rfl⟩, ⟨_, rfl, rfl⟩, ⟨_, rfl, rfl⟩, ⟨_, rfl, rfl⟩, trivial⟩ ⟨⟨rfl, rF rfl rfl⟩, ⟨rfl, rFO (flatD (fun _ => rfl) _) rfl⟩, trivial⟩ ?_
      refine W_seq rfl ?_
      refine W_seq rfl ?_
      refine Wjoin ⟨[(0, .rop [i64 s.lo, i64 s.hi, .ros (s.es.flatMap entC) s.es.length c] 0), (1, i64 year), (4, .ptr 0 0), (5, .rop [i64 ((endQ s false).1), i64 ((endQ s false).2), i64 ((endQ s true).1), i64 ((endQ s true).2)] 0), (6, .out 1 l2.length 2), (8, .rop [i64 s.es[k].y, i64 s.es[k].lo, i64 s.es[k].hi] 0), (11, .rop [i64 (((s.es.take k)[i]).y), i64 (((s.es.take k)[i]).lo), i64 (((s.es.take k)[i]).hi)] 0), (24, .ros (s.es.flatMap entC) s.es.length c), (25, i64 ((s.es.length : Nat) : Int)), (26, i64 ((k : Nat) : Int)), (58, .ros ((s.es.take k).flatMap entC) k none), (59, i64 ((k : Nat) : Int)), (60, i64 ((i : Nat) : Int)), (73, .bool ((decide (year < (((s.es.take k)[i]).y))) || (decide (s.es[k].y < year))))], [(0, some (.cells [i64 0, i64 0] 28)), (1, outB (l2.flatMap ratC) 28 l2.length)], 2, []⟩ ?_ ?_
      · refine W_reg rfl ?_
        refine Rv rfl rfl rfl (U_fieldAddrR rfl) rfl rfl ?_
        refine Rv rfl rfl rfl (U_load1 rfl rfl rfl) rfl rfl ?_
        refine Rv rfl rfl rfl (U_move rfl) rfl rfl ?_
        refine Rv rfl rfl rfl (U_gtr rfl rfl) rfl rfl ?_
        refine Rv rfl rfl rfl (U_move rfl) rfl rfl ?_
        refine Rsplit (t := 68) rfl (fun hg5 => ?_) (fun hg5 => ?_)
        · rw [hg5]
          have hg5' : year < (((s.es.take k)[i]).y) := of_decide_eq_true hg5
          refine Rs rfl rfl rfl rfl rfl ?_
          refine Rs rfl rfl rfl rfl rfl ?_
          refine Rs rfl rfl rfl rfl rfl ?_
          refine Rs rfl rfl rfl rfl rfl ?_
          refine Rv rfl rfl rfl (U_pick_t rfl rfl) rfl rfl ?_
          refine Re rfl ?_
          exact joinTo id ⟨eD rfl rfl, eD rfl rfl, e_ rfl rfl, eD rfl rfl, e_ rfl rfl, eD rfl rfl, eD rfl rfl, eD rfl rfl, eD rfl rfl, eD rfl rfl, eD rfl rfl, eD rfl rfl, eD rfl rfl, eD rfl rfl, trivial⟩ ⟨rD rfl rfl rfl, rO (flatD (fun _ => rfl) _) rfl rfl, trivial⟩ rfl rfl rfl rfl (fun _ _ => rfl)
        · rw [hg5]
          have hg5' : ¬ (year < (((s.es.take k)[i]).y)) := of_decide_eq_false hg5
          refine Rv rfl rfl rfl (U_fieldAddrR rfl) rfl rfl ?_
          refine Rv rfl rfl rfl (U_load1 rfl rfl rfl) rfl rfl ?_
          refine Rv rfl rfl rfl (U_move rfl) rfl rfl ?_
          refine Rv rfl rfl rfl (U_lss rfl rfl) rfl rfl ?_
          refine Rv rfl rfl rfl (U_pick_f rfl rfl) rfl rfl ?_
          refine Re rfl ?_
          exact joinTo id ⟨eD rfl rfl, eD rfl rfl, e_ rfl rfl, eD rfl rfl, e_ rfl rfl, eD rfl rfl, eD rfl rfl, eD rfl rfl, eD rfl rfl, eD rfl rfl, eD rfl rfl, eD rfl rfl, eD rfl rfl, eD rfl rfl, trivial⟩ ⟨rD rfl rfl rfl, rO (flatD (fun _ => rfl) _) rfl rfl, trivial⟩ rfl rfl rfl rfl (fun _ _ => rfl)
      refine thenQ_n ?_
      refine Wcond rfl rfl (fun hc3 => ?_) (fun hc3 => ?_)
      · refine W_exit rfl ?_
        refine thenQ_x ?_
        refine blkQ_x rfl ?_
        refine thenQ_n ?_
        refine W_reg rfl ?_
        refine Rv rfl rfl rfl (U_add rfl rfl (w64e (m := ((i + 1 : Nat) : Int)) (by omega) (by omega) (by omega))) rfl rfl ?_
        refine Rv rfl rfl rfl (U_move rfl) rfl rfl ?_
        refine Re rfl ?_
        refine thenQ_n ?_
        exact againTo (T' := [(0, .rop [i64 s.lo, i64 s.hi, .ros (s.es.flatMap entC) s.es.length c] 0), (1, i64 year), (4, .ptr 0 0), (5, .rop [i64 ((endQ s false).1), i64 ((endQ s false).2), i64 ((endQ s true).1), i64 ((endQ s true).2)] 0), (6, .out 1 l2.length 2), (8, .rop [i64 s.es[k].y, i64 s.es[k].lo, i64 s.es[k].hi] 0), (24, .ros (s.es.flatMap entC) s.es.length c), (25, i64 ((s.es.length : Nat) : Int)), (26, i64 ((k : Nat) : Int)), (58, .ros ((s.es.take k).flatMap entC) k none), (59, i64 ((k : Nat) : Int)), (60, i64 (((i + 1) : Nat) : Int))]) (H' := [(0, some (.cells [i64 0, i64 0] 28)), (1, outB (l2.flatMap ratC) 28 l2.length)]) (n := 2) (k - (i + 1)) ⟨i + 1, l2, (by omega), (by rw [take_succ' hj, List.filterMap_append, hi1_1]; first | (simp only [List.filterMap_cons, List.filterMap_nil, lineO_t hc3, List.append_nil]; done) | (simp only [List.filterMap_cons, List.filterMap_nil, lineO_f hc3, List.append_assoc, List.cons_append]; rfl)), rfl, rfl⟩ (by omega) id ⟨eD rfl rfl, eD rfl rfl, e_ rfl rfl, eD rfl rfl, e_ rfl rfl, eD rfl rfl, eD rfl rfl, eD rfl rfl, eD rfl rfl, eD rfl rfl, eD rfl rfl, eD rfl rfl, trivial⟩ ⟨rD rfl rfl rfl, rO (flatD (fun _ => rfl) _) rfl rfl, trivial⟩ rfl rfl rfl rfl (fun _ _ => rfl)
      · have hc3' := Bool.eq_false_iff.1 hc3
        have hc3s := hc3
        simp at hc3s
        refine W_skip rfl ?_
        refine thenQ_n ?_
        refine W_reg rfl ?_
        refine Rv rfl rfl rfl (U_move rfl) rfl rfl ?_
        refine Rv rfl rfl rfl (U_fieldAddrR rfl) rfl rfl ?_
        refine Rv rfl rfl rfl (U_fieldAddrR rfl) rfl rfl ?_
        refine Rv rfl rfl rfl (U_load1 rfl rfl rfl) rfl rfl ?_
        refine Rv rfl rfl rfl (U_fieldAddrR rfl) rfl rfl ?_
        refine Rv rfl rfl rfl (U_load1 rfl rfl rfl) rfl rfl ?_
        refine Rv rfl rfl rfl (U_move rfl) rfl rfl ?_
        refine Rv rfl rfl rfl (U_sub rfl rfl (w64 (by omega) (by omega))) rfl rfl ?_
        have hm1 := mulB (a := (s.es.take k)[i].hi) (b := s.es[k].y - year) (A := 10000) (B := 200) (by omega) (by omega) (by omega) (by omega)
        refine Rv rfl rfl rfl (U_mul rfl rfl (w64 (by omega) (by omega))) rfl rfl ?_
        refine Rv rfl rfl rfl (U_fieldAddrR rfl) rfl rfl ?_
        refine Rv rfl rfl rfl (U_fieldAddrR rfl) rfl rfl ?_
        refine Rv rfl rfl rfl (U_load1 rfl rfl rfl) rfl rfl ?_
        refine Rv rfl rfl rfl (U_move rfl) rfl rfl ?_
        refine Rv rfl rfl rfl (U_fieldAddrR rfl) rfl rfl ?_
        refine Rv rfl rfl rfl (U_load1 rfl rfl rfl) rfl rfl ?_
        refine Rv rfl rfl rfl (U_sub rfl rfl (w64 (by omega) (by omega))) rfl rfl ?_
        have hm2 := mulB (a := s.es[k].hi) (b := year - (s.es.take k)[i].y) (A := 10000) (B := 200) (by omega) (by omega) (by omega) (by omega)
        refine Rv rfl rfl rfl (U_mul rfl rfl (w64 (by omega) (by omega))) rfl rfl ?_
        refine Rv rfl rfl rfl (U_add rfl rfl (w64 (by omega) (by omega))) rfl rfl ?_
        refine Rv rfl rfl rfl (U_fieldAddrR rfl) rfl rfl ?_
        refine Rv rfl rfl rfl (U_load1 rfl rfl rfl) rfl rfl ?_
        refine Rv rfl rfl rfl (U_fieldAddrR rfl) rfl rfl ?_
        refine Rv rfl rfl rfl (U_load1 rfl rfl rfl) rfl rfl ?_
        refine Rv rfl rfl rfl (U_sub rfl rfl (w64 (by omega) (by omega))) rfl rfl ?_
        refine Rv rfl rfl rfl (U_call rfl rfl (frac_p (((((s.es.take k)[i]).hi) * (s.es[k].y - year)) + (s.es[k].hi * (year - (((s.es.take k)[i]).y)))) (s.es[k].y - (((s.es.take k)[i]).y)) (by omega) (by omega)) rfl) rfl rfl ?_
        refine Rv rfl rfl rfl (U_buildSliceF (by rfl) (by decide) rfl rfl rfl) rfl rfl ?_
        have hll : l2.length ≤ 3000 := by have h1 : l.length ≤ 2000 := by { rw [hi0_1]; have := allH_len s year k hlen (by omega); omega }; have h2 := List.length_filterMap_le (lineO year s.es[k]) ((s.es.take k).take i); have h3 := List.length_take_le i (s.es.take k); rw [hi1_1, List.length_append, List.length_cons]; omega
        refine Ra rfl rfl rfl (U_appO (b := 1) (m := 0) (cs' := (l2 ++ [(frac (((((s.es.take k)[i]).hi) * (s.es[k].y - year)) + (s.es[k].hi * (year - (((s.es.take k)[i]).y)))) (s.es[k].y - (((s.es.take k)[i]).y)))]).flatMap ratC) (n' := (l2 ++ [(frac (((((s.es.take k)[i]).hi) * (s.es[k].y - year)) + (s.es[k].hi * (year - (((s.es.take k)[i]).y)))) (s.es[k].y - (((s.es.take k)[i]).y)))]).length) rfl rfl (by simp) rfl (flat_len (z := 2) (fun _ => rfl) _) rfl rfl (by omega) (appF _ _) (len1 _ _)) rfl rfl rfl ?_
        refine Rv rfl rfl rfl (U_assign rfl) rfl rfl ?_
        refine Re rfl ?_
        refine blkQ_n ?_
        refine thenQ_n ?_
        refine W_reg rfl ?_
        refine Rv rfl rfl rfl (U_add rfl rfl (w64e (m := ((i + 1 : Nat) : Int)) (by omega) (by omega) (by omega))) rfl rfl ?_
        refine Rv rfl rfl rfl (U_move rfl) rfl rfl ?_
        refine Re rfl ?_
        refine thenQ_n ?_
        exact againTo (T' := [(0, .rop [i64 s.lo, i64 s.hi, .ros (s.es.flatMap entC) s.es.length c] 0), (1, i64 year), (4, .ptr 0 0), (5, .rop [i64 ((endQ s false).1), i64 ((endQ s false).2), i64 ((endQ s true).1), i64 ((endQ s true).2)] 0), (6, .out 1 (l2 ++ [(frac (((((s.es.take k)[i]).hi) * (s.es[k].y - year)) + (s.es[k].hi * (year - (((s.es.take k)[i]).y)))) (s.es[k].y - (((s.es.take k)[i]).y)))]).length 2), (8, .rop [i64 s.es[k].y, i64 s.es[k].lo, i64 s.es[k].hi] 0), (24, .ros (s.es.flatMap entC) s.es.length c), (25, i64 ((s.es.length : Nat) : Int)), (26, i64 ((k : Nat) : Int)), (58, .ros ((s.es.take k).flatMap entC) k none), (59, i64 ((k : Nat) : Int)), (60, i64 (((i + 1) : Nat) : Int))]) (H' := [(0, some (.cells [i64 0, i64 0] 28)), (1, outB ((l2 ++ [(frac (((((s.es.take k)[i]).hi) * (s.es[k].y - year)) + (s.es[k].hi * (year - (((s.es.take k)[i]).y)))) (s.es[k].y - (((s.es.take k)[i]).y)))]).flatMap ratC) 28 (l2 ++ [(frac (((((s.es.take k)[i]).hi) * (s.es[k].y - year)) + (s.es[k].hi * (year - (((s.es.take k)[i]).y)))) (s.es[k].y - (((s.es.take k)[i]).y)))]).length)]) (n := 2) (k - (i + 1)) ⟨i + 1, l2 ++ [(frac (((((s.es.take k)[i]).hi) * (s.es[k].y - year)) + (s.es[k].hi * (year - (((s.es.take k)[i]).y)))) (s.es[k].y - (((s.es.take k)[i]).y)))], (by omega), (by rw [take_succ' hj, List.filterMap_append, hi1_1]; first | (simp only [List.filterMap_cons, List.filterMap_nil, lineO_t hc3, List.append_nil]; done) | (simp only [List.filterMap_cons, List.filterMap_nil, lineO_f hc3, List.append_assoc, List.cons_append]; rfl)), rfl, rfl⟩ (by omega) (mapN [0, 2]) ⟨eD rfl rfl, eD rfl rfl, e_ rfl rfl, eD rfl rfl, e_ rfl rfl, eD rfl rfl, eD rfl rfl, eD rfl rfl, eD rfl rfl, eD rfl rfl, eD rfl rfl, eD rfl rfl, trivial⟩ ⟨rD rfl rfl rfl, rO (flatD (fun _ => rfl) _) rfl rfl, trivial⟩ rfl rfl rfl rfl (fun _ h => absurd h (Nat.not_lt_zero _))
    · refine W_exit rfl ?_
      refine thenQ_x ?_
      refine thenQ_x ?_
      refine blkQ_x rfl ?_
      refine noGo_n ?_
      refine blkQ_n ?_
      refine thenQ_n ?_
      refine W_reg rfl ?_
      refine Rv rfl rfl rfl (U_add rfl rfl (w64e (m := ((k + 1 : Nat) : Int)) (by omega) (by omega) (by omega))) rfl rfl ?_
      refine Rv rfl rfl rfl (U_move rfl) rfl rfl ?_
      refine Re rfl ?_
      refine thenQ_n ?_
      exact againTo (T' := [(0, .rop [i64 s.lo, i64 s.hi, .ros (s.es.flatMap entC) s.es.length c] 0), (1, i64 year), (4, .ptr 0 0), (5, .rop [i64 ((endQ s false).1), i64 ((endQ s false).2), i64 ((endQ s true).1), i64 ((endQ s true).2)] 0), (6, .out 1 l2.length 2), (24, .ros (s.es.flatMap entC) s.es.length c), (25, i64 ((s.es.length : Nat) : Int)), (26, i64 (((k + 1) : Nat) : Int))]) (H' := [(0, some (.cells [i64 0, i64 0] 28)), (1, outB (l2.flatMap ratC) 28 l2.length)]) (n := 2) (s.es.length - (k + 1)) ⟨k + 1, l2, (by omega), (by obtain rfl : i = k := by { omega }; rw [allH_succ hck, ← hi0_1, hi1_1, List.take_of_length_le (List.length_take_le _ _)]), rfl, rfl⟩ (by omega) id ⟨eD rfl rfl, eD rfl rfl, e_ rfl rfl, eD rfl rfl, e_ rfl rfl, eD rfl rfl, eD rfl rfl, eD rfl rfl, trivial⟩ ⟨rD rfl rfl rfl, rO (flatD (fun _ => rfl) _) rfl rfl, trivial⟩ rfl rfl rfl rfl (fun _ _ => rfl)
  · obtain rfl : k = s.es.length := by omega
    have hll : l.length ≤ 2000 := by rw [hi0_1]; have := allH_len s year s.es.length hlen (Nat.le_refl _); omega
    have hbl : ∀ q ∈ l, Bd 6000000 200 q := by rw [hi0_1]; exact allH_bd hg hy _
    refine W_exit rfl ?_
    refine thenQ_x ?_
    refine thenQ_x ?_
    refine blkQ_x rfl ?_
    refine thenQ_n ?_
    refine W_seq rfl ?_
    refine WfrO 1 (l.flatMap ratC) rfl (flatD (fun _ => rfl) _) (T' := [(4, .ptr 0 0), (6, .ros (l.flatMap ratC) l.length none)]) (H' := [(0, some (.cells [i64 0, i64 0] 28))]) ⟨fS rfl rfl, fO rfl, trivial⟩ ⟨⟨rfl, .cells (.cons (.same rfl) (.cons (.same rfl) .nil))⟩, trivial⟩ ?_
    refine W_reg rfl ?_
    refine Rv rfl rfl rfl (U_move rfl) rfl rfl ?_
    have hl0 : 0 < l.length := by rw [hi0_1]; exact allH_pos s year _ (by omega) (by omega)
    have hx6 : 0 < l.length := by omega
    refine Rv rfl rfl rfl (U_indexR (j := 0) rfl rfl rfl hx6) rfl rfl ?_
    refine Rv rfl rfl rfl (U_load2 rfl rfl (rat0 hx6) (rat1 hx6)) rfl rfl ?_
    refine Ra rfl rfl rfl (U_alloc) rfl rfl rfl ?_
    refine Rn rfl rfl rfl (U_storeAll rfl rfl rfl rfl rfl rfl) rfl ?_
    refine Re rfl ?_
    refine thenQ_n ?_
    refine W_seq rfl ?_
    refine W_seq rfl ?_
    refine W_reg rfl ?_
    refine Rv rfl rfl rfl (U_move rfl) rfl rfl ?_
    refine Rv rfl rfl rfl (U_lenOf rfl len_ros) rfl rfl ?_
    refine Rv rfl rfl rfl (U_move rfl) rfl rfl ?_
    refine Re rfl ?_
    refine thenQ_n ?_
    refine W_block rfl ?_
    refine LoopTo (T' := [(4, .ptr 0 0), (12, .ptr 2 0), (105, .ros (l.flatMap ratC) l.length none), (106, i64 ((l.length : Nat) : Int)), (107, i64 ((0 : Nat) : Int))]) (H' := [(0, some (.cells [i64 0, i64 0] 28)), (2, some (.cells [i64 l[0].1, i64 l[0].2] 28))]) (n := 3) rfl (fun mz_ qz_ => ∃ (j : Nat) (out : Int × Int), j ≤ l.length ∧ out = (l.take j).foldl lessOf l[0] ∧ Bd 6000000 200 out ∧ mz_ = l.length - j ∧ qz_ = ⟨[(4, .ptr 0 0), (12, .ptr 2 0), (105, .ros (l.flatMap ratC) l.length none), (106, i64 ((l.length : Nat) : Int)), (107, i64 ((j : Nat) : Int))], [(0, some (.cells [i64 0, i64 0] 28)), (2, some (.cells [i64 out.1, i64 out.2] 28))], 3, []⟩) ⟨0, l[0], (by omega), rfl, (hbl _ (List.getElem_mem _)), rfl, rfl⟩ id ⟨e_ rfl rfl, e_ rfl rfl, eD rfl rfl, eD rfl rfl, eD rfl rfl, trivial⟩ ⟨rD rfl rfl rfl, rD rfl rfl rfl, trivial⟩ rfl rfl rfl rfl (fun _ _ => rfl) ?_
    rintro _ _ ⟨j, out, hi2_0, hi2_1, hi2_2, rfl, rfl⟩
    refine W_seq rfl ?_
    refine W_reg rfl ?_
    refine Rv rfl rfl rfl (U_lss rfl rfl) rfl rfl ?_
    refine Re rfl ?_
    refine thenQ_n ?_
    refine W_seq rfl ?_
    refine WcondP rfl rfl (fun hc4 => ?_) (fun hc4 => ?_)
    · have hj : j < l.length := by omega
      refine W_skip rfl ?_
      refine thenQ_n ?_
      refine W_seq rfl ?_
      refine W_block rfl ?_
      refine W_seq rfl ?_
      refine W_reg rfl ?_
      have hx7 : j < l.length := by omega
      refine Rv rfl rfl rfl (U_indexR (j := j) rfl rfl rfl hx7) rfl rfl ?_
      refine Rv rfl rfl rfl (U_load2 rfl rfl (rat0 hx7) (rat1 hx7)) rfl rfl ?_
      refine Ra rfl rfl rfl (U_alloc) rfl rfl rfl ?_
      refine Rn rfl rfl rfl (U_storeAll rfl rfl rfl rfl rfl rfl) rfl ?_
      refine Re rfl ?_
      refine thenQ_n ?_
      refine WfrN 3 rfl rfl (T' := [(4, .ptr 0 0), (12, .ptr 2 0), (14, .rop [i64 l[j].1, i64 l[j].2] 0), (105, .ros (l.flatMap ratC) l.length none), (106, i64 ((l.length : Nat) : Int)), (107, i64 ((j : Nat) : Int))]) (H' := [(0, some (.cells [i64 0, i64 0] 28)), (2, some (.cells [i64 out.1, i64 out.2] 28))]) ⟨⟨_, rfl, rfl⟩, ⟨_, rfl, rfl⟩, ⟨_, rfl, rfl⟩, ⟨_, rfl, rfl⟩, ⟨_, rfl, rfl⟩, ⟨_, rfl, rfl⟩, trivial⟩ ⟨⟨rfl, rF rfl rfl⟩, ⟨rfl, rF rfl rfl⟩, trivial⟩ ?_
      refine Wdraw rfl (by kernel_rfl) (by kernel_rfl) ?_
      refine Dv rfl rfl rfl (U_load2 rfl rfl rfl rfl) rfl rfl ?_
      refine Dv rfl rfl rfl (U_load2 rfl rfl rfl rfl) rfl rfl ?_
      refine Dv rfl rfl rfl (U_load2 rfl rfl rfl rfl) rfl rfl ?_
      refine Dv rfl rfl rfl (U_load2 rfl rfl rfl rfl) rfl rfl ?_
      have hq1 := bd_prod (hbl l[j] (List.getElem_mem _)) hi2_2 (by omega)
      have hq2 := bd_prod hi2_2 (hbl l[j] (List.getElem_mem _)) (by omega)
      refine Dv rfl rfl rfl (U_call rfl rfl (less_p l[j] out (by omega) (by omega)) rfl) rfl rfl ?_
      refine Dv rfl rfl rfl (U_call rfl rfl (firstQ_p l[j] out (lessQ l[j] out)) rfl) rfl rfl ?_
      refine Dn_ rfl rfl rfl (U_storeAll rfl rfl rfl rfl rfl rfl) rfl rfl ?_
      refine Dr.nil rfl ?_
      refine blkQ_n ?_
      refine thenQ_n ?_
      refine W_reg rfl ?_
      refine Rv rfl rfl rfl (U_add rfl rfl (w64e (m := ((j + 1 : Nat) : Int)) (by omega) (by omega) (by omega))) rfl rfl ?_
      refine Rv rfl rfl rfl (U_move rfl) rfl rfl ?_
      refine Re rfl ?_
      refine thenQ_n ?_
      exact againTo (T' := [(4, .ptr 0 0), (12, .ptr 2 0), (105, .ros (l.flatMap ratC) l.length none), (106, i64 ((l.length : Nat) : Int)), (107, i64 (((j + 1) : Nat) : Int))]) (H' := [(0, some (.cells [i64 0, i64 0] 28)), (2, some (.cells [i64 (if (lessQ l[j] out) = true then l[j] else out).1, i64 (if (lessQ l[j] out) = true then l[j] else out).2] 28))]) (n := 3) (l.length - (j + 1)) ⟨j + 1, if (lessQ l[j] out) = true then l[j] else out, (by omega), (by rw [take_succ' hj, List.foldl_append, ← hi2_1]; rfl), (by split <;> first | exact hi2_2 | exact hbl _ (List.getElem_mem _)), rfl, rfl⟩ (by omega) id ⟨e_ rfl rfl, e_ rfl rfl, eD rfl rfl, eD rfl rfl, eD rfl rfl, trivial⟩ ⟨rD rfl rfl rfl, rD rfl rfl rfl, trivial⟩ rfl rfl rfl rfl (fun _ _ => rfl)
    · refine W_exit rfl ?_
      refine thenQ_x ?_
      refine thenQ_x ?_
      refine blkQ_x rfl ?_
      refine thenQ_n ?_
      refine W_seq rfl ?_
      refine W_reg rfl ?_
      refine Rv rfl rfl rfl (U_load2 rfl rfl rfl rfl) rfl rfl ?_
      refine Rn rfl rfl rfl (U_storeAll rfl rfl rfl rfl rfl rfl) rfl ?_
      refine Re rfl ?_
      refine thenQ_n ?_
      refine W_ret rfl ?_
      exact retL (rlA rfl rfl rfl rl0) (by first | rfl | (simp only [packA]; rw [List.take_of_length_le (by omega)] at hi2_1; subst hi2_1; subst hi0_1; simp [highQ, hl0]; first | done | rfl)) rfl
end Go.Proofs.Ytapappdgdiaijaa
end

section
/- Contracts of package drift: a motion that reaches the greatest place; Place, Motion. -/
namespace Go.Proofs.Ytapappdgdiaijaa
set_option maxRecDepth 20000
open Go.AE
/-- The greater one, the first one of two that are equal. -/
def moreOf (out x : Int × Int) : Int × Int := if lessQ out x = true then x else out
def motStep (year : Int) (p : Int × Int) (q : (Int × Int) × (Int × Int)) (e : Ent) : (Int × Int) × (Int × Int) :=
  if (e.lo = -10000 ∧ e.hi = 10000) ∨ e.y - year = 0 then q
  else if 0 < e.y - year then (moreOf q.1 (steepQ p e.lo (e.y - year)), lessOf q.2 (steepQ p e.hi (e.y - year)))
  else (moreOf q.1 (steepQ p e.hi (e.y - year)), lessOf q.2 (steepQ p e.lo (e.y - year)))
def motQ (s : Star) (year : Int) : (Int × Int) × (Int × Int) := s.es.foldl (motStep year (highQ s year)) (endQ s false, endQ s true)
/-- The rate, and the place, of the motion. -/
def motR (s : Star) (year : Int) : Int × Int := lessOf (motQ s year).1 (motQ s year).2
def motP (s : Star) (year : Int) : Int × Int := carriedQ (highQ s year) (motR s year) (-year)
theorem lessOf_bd {N D : Int} {a b : Int × Int} (ha : Bd N D a) (hb : Bd N D b) : Bd N D (lessOf a b) := by unfold lessOf; split <;> assumption
theorem moreOf_bd {N D : Int} {a b : Int × Int} (ha : Bd N D a) (hb : Bd N D b) : Bd N D (moreOf a b) := by unfold moreOf; split <;> assumption
theorem foldl_bd {N D : Int} : ∀ (l : List (Int × Int)) (q : Int × Int), (∀ x ∈ l, Bd N D x) → Bd N D q → Bd N D (l.foldl lessOf q)
  | [], _, _, h => h
  | x :: l, q, h, k => foldl_bd l _ (fun y hy => h y (by simp [hy])) (lessOf_bd k (h x (by simp)))
theorem high_bd {s : Star} (hg : Good s) (h0 : 0 < s.es.length) {year : Int} (hy : 0 ≤ year ∧ year ≤ 200) : Bd 6000000 200 (highQ s year) := by
  have hb := allH_bd hg hy s.es.length
  have hp := allH_pos s year s.es.length h0 (Nat.le_refl _)
  refine foldl_bd _ _ hb ?_
  have : (allH s year s.es.length).getD 0 (0, 0) = (allH s year s.es.length)[0] := by simp [hp]
  rw [this]; exact hb _ (List.getElem_mem _)
theorem steep_bd {p : Int × Int} {to d : Int} (hp : Bd 6000000 200 p) (ht : -10000 ≤ to ∧ to ≤ 10000) (hd : -200 ≤ d ∧ d ≤ 200) (h0 : d ≠ 0) : Bd 8000000 40000 (steepQ p to d) := by
  obtain ⟨h1, h2, h3, h4⟩ := hp
  have m1 := mulB (a := to) (b := p.2) (A := 10000) (B := 200) (by omega) (by omega) (by omega) (by omega)
  unfold steepQ
  split
  · rename_i hn
    have m2 := mulB (a := p.2) (b := d) (A := 200) (B := 200) (by omega) (by omega) (by omega) (by omega)
    exact frac_bd (by omega) (by omega) (by omega) (by omega)
  · rename_i hn
    have m2 := mulB (a := p.2) (b := d) (A := 200) (B := 200) (by omega) (by omega) (by omega) (by omega)
    have m3 : p.2 * d ≠ 0 := Int.mul_ne_zero (by omega) h0
    exact frac_bd (by omega) (by omega) (by omega) (by omega)
theorem bd8 {q : Int × Int} (h : Bd 8000000 40000 q) : Bd 1000000000 40000 q := bd_le h (by omega) (by omega)
theorem mot0 {year : Int} {p : Int × Int} {q : (Int × Int) × (Int × Int)} {e : Ent} (h : (decide (e.lo = -10000 ∧ e.hi = 10000) || decide (e.y - year = 0)) = true) : motStep year p q e = q := by
  unfold motStep; rw [if_pos (by simpa using h)]
theorem motT {year : Int} {p : Int × Int} {q : (Int × Int) × (Int × Int)} {e : Ent} (h : (decide (e.lo = -10000 ∧ e.hi = 10000) || decide (e.y - year = 0)) = false) (h2 : 0 < e.y - year) : motStep year p q e = (moreOf q.1 (steepQ p e.lo (e.y - year)), lessOf q.2 (steepQ p e.hi (e.y - year))) := by
  unfold motStep; rw [if_neg (by intro hh; rw [Bool.eq_false_iff] at h; exact h (by simpa using hh)), if_pos h2]
theorem motF {year : Int} {p : Int × Int} {q : (Int × Int) × (Int × Int)} {e : Ent} (h : (decide (e.lo = -10000 ∧ e.hi = 10000) || decide (e.y - year = 0)) = false) (h2 : ¬ 0 < e.y - year) : motStep year p q e = (moreOf q.1 (steepQ p e.hi (e.y - year)), lessOf q.2 (steepQ p e.lo (e.y - year))) := by
  unfold motStep; rw [if_neg (by intro hh; rw [Bool.eq_false_iff] at h; exact h (by simpa using hh)), if_neg h2]
theorem motion_p (s : Star) (c : Option Nat) (hg : Good s) (h0 : 0 < s.es.length) (year : Int) (hy : 0 ≤ year ∧ year ≤ 200) : Pure Try.prog 90 [cardA s c, i64 year] (motA (motP s year) (motR s year)) := by
  have hlen := hg.len
  refine pure_of_body Try.func90 (c := body Try.f90) rfl (by simp [Try.ntmps90]) fun w0 Φ0 => ?_
  refine W_seq rfl ?_
  refine W_reg rfl ?_
  refine Ra rfl rfl rfl (U_alloc) rfl rfl rfl ?_
  refine Re rfl ?_
  refine thenQ_n ?_
  refine W_seq rfl ?_
  refine W_reg rfl ?_
  refine Rv rfl rfl rfl (U_move rfl) rfl rfl ?_
  refine Rv rfl rfl rfl (U_move rfl) rfl rfl ?_
  refine Rv rfl rfl rfl (U_call rfl rfl (highest_p s c (by assumption) (by assumption) year (by omega)) rfl) rfl rfl ?_
  refine Ra rfl rfl rfl (U_alloc) rfl rfl rfl ?_
  refine Rn rfl rfl rfl (U_storeAll rfl rfl rfl rfl rfl rfl) rfl ?_
  refine Re rfl ?_
  refine thenQ_n ?_
  refine WfrN 1 rfl rfl (T' := [(0, .rop [i64 s.lo, i64 s.hi, .ros (s.es.flatMap entC) s.es.length c] 0), (1, i64 year), (4, .ptr 0 0), (5, .rop [i64 ((highQ s year).1), i64 ((highQ s year).2)] 0)]) (H' := [(0, some (.cells [i64 0, i64 0, i64 0, i64 0] 30))]) ⟨⟨_, rfl, rfl⟩, ⟨_, rfl, rfl⟩, ⟨_, rfl, rfl⟩, ⟨_, rfl, rfl⟩, trivial⟩ ⟨⟨rfl, rF rfl rfl⟩, trivial⟩ ?_
  refine W_seq rfl ?_
  refine W_reg rfl ?_
  refine Rv rfl rfl rfl (U_move rfl) rfl rfl ?_
  refine Rv rfl rfl rfl (U_call rfl rfl (end_p s c (by assumption) false) rfl) rfl rfl ?_
  refine Rv rfl rfl rfl (U_move rfl) rfl rfl ?_
  have hat := high_bd hg h0 hy
  refine Rv rfl rfl rfl (U_call rfl rfl (end_p s c (by assumption) true) rfl) rfl rfl ?_
  refine Ra rfl rfl rfl (U_alloc) rfl rfl rfl ?_
  refine Ra rfl rfl rfl (U_alloc) rfl rfl rfl ?_
  refine Rn rfl rfl rfl (U_storeAll rfl rfl rfl rfl rfl rfl) rfl ?_
  refine Rn rfl rfl rfl (U_storeAll rfl rfl rfl rfl rfl rfl) rfl ?_
  refine Re rfl ?_
  refine thenQ_n ?_
  refine W_seq rfl ?_
  refine W_seq rfl ?_
  refine W_reg rfl ?_
  refine Rv rfl rfl rfl (U_move rfl) rfl rfl ?_
  refine Rv rfl rfl rfl (U_nilCheckR rfl) rfl rfl ?_
  refine Rv rfl rfl rfl (U_fieldAddrR rfl) rfl rfl ?_
  refine Rv rfl rfl rfl (U_fieldAddrR rfl) rfl rfl ?_
  refine Rv rfl rfl rfl (U_load1 rfl rfl rfl) rfl rfl ?_
  refine Rv rfl rfl rfl (U_lenOf rfl len_ros) rfl rfl ?_
  refine Rv rfl rfl rfl (U_move rfl) rfl rfl ?_
  refine Re rfl ?_
  refine thenQ_n ?_
  refine W_block rfl ?_
  refine LoopTo (T' := [(0, .rop [i64 s.lo, i64 s.hi, .ros (s.es.flatMap entC) s.es.length c] 0), (1, i64 year), (4, .ptr 0 0), (5, .rop [i64 ((highQ s year).1), i64 ((highQ s year).2)] 0), (6, .ptr 2 0), (7, .ptr 3 0), (23, .ros (s.es.flatMap entC) s.es.length c), (24, i64 ((s.es.length : Nat) : Int)), (25, i64 ((0 : Nat) : Int))]) (H' := [(0, some (.cells [i64 0, i64 0, i64 0, i64 0] 30)), (2, some (.cells [i64 (endQ s false).1, i64 (endQ s false).2] 28)), (3, some (.cells [i64 (endQ s true).1, i64 (endQ s true).2] 28))]) (n := 4) rfl (fun mz_ qz_ => ∃ (k : Nat) (rate : Int × Int) (high : Int × Int), k ≤ s.es.length ∧ (rate, high) = (s.es.take k).foldl (motStep year (highQ s year)) (endQ s false, endQ s true) ∧ Bd 8000000 40000 rate ∧ Bd 8000000 40000 high ∧ mz_ = s.es.length - k ∧ qz_ = ⟨[(0, .rop [i64 s.lo, i64 s.hi, .ros (s.es.flatMap entC) s.es.length c] 0), (1, i64 year), (4, .ptr 0 0), (5, .rop [i64 ((highQ s year).1), i64 ((highQ s year).2)] 0), (6, .ptr 2 0), (7, .ptr 3 0), (23, .ros (s.es.flatMap entC) s.es.length c), (24, i64 ((s.es.length : Nat) : Int)), (25, i64 ((k : Nat) : Int))], [(0, some (.cells [i64 0, i64 0, i64 0, i64 0] 30)), (2, some (.cells [i64 rate.1, i64 rate.2] 28)), (3, some (.cells [i64 high.1, i64 high.2] 28))], 4, []⟩) ⟨0, endQ s false, endQ s true, (by omega), rfl, (bd_le (end_bd hg _) (by omega) (by omega)), (bd_le (end_bd hg _) (by omega) (by omega)), rfl, rfl⟩ id ⟨eD rfl rfl, eD rfl rfl, e_ rfl rfl, eD rfl rfl, e_ rfl rfl, e_ rfl rfl, eD rfl rfl, eD rfl rfl, eD rfl rfl, trivial⟩ ⟨rD rfl rfl rfl, rD rfl rfl rfl, rD rfl rfl rfl, trivial⟩ rfl rfl rfl rfl (fun _ _ => rfl) ?_
  rintro _ _ ⟨k, rate, high, hi0_0, hi0_1, hi0_2, hi0_3, rfl, rfl⟩
  refine W_seq rfl ?_
  refine W_reg rfl ?_
  refine Rv rfl rfl rfl (U_lss rfl rfl) rfl rfl ?_
  refine Re rfl ?_
  refine thenQ_n ?_
  refine W_seq rfl ?_
  refine WcondP rfl rfl (fun hc0 => ?_) (fun hc0 => ?_)
  · have hck : k < s.es.length := by omega
    have he := hg.es k hck
    refine W_skip rfl ?_
    refine thenQ_n ?_
    refine W_seq rfl ?_
    refine W_block rfl ?_
    refine W_seq rfl ?_
    refine W_reg rfl ?_
    refine Rv rfl rfl rfl (U_move rfl) rfl rfl ?_
    have hx1 : k < s.es.length := by omega
    refine Rv rfl rfl rfl (U_indexR (j := k) rfl rfl rfl hx1) rfl rfl ?_
    refine Rv rfl rfl rfl (U_load3 rfl rfl (ent0 hx1) (ent1 hx1) (ent2 hx1)) rfl rfl ?_
    refine Ra rfl rfl rfl (U_alloc) rfl rfl rfl ?_
    refine Rv rfl rfl rfl (U_assign rfl) rfl rfl ?_
    refine Rn rfl rfl rfl (U_storeAll rfl rfl rfl rfl rfl rfl) rfl ?_
    refine Re rfl ?_
    refine thenQ_n ?_
    refine WfrN 4 rfl rfl (T' := [(0, .rop [i64 s.lo, i64 s.hi, .ros (s.es.flatMap entC) s.es.length c] 0), (1, i64 year), (4, .ptr 0 0), (5, .rop [i64 ((highQ s year).1), i64 ((highQ s year).2)] 0), (6, .ptr 2 0), (7, .ptr 3 0), (8, i64 ((k : Nat) : Int)), (9, .rop [i64 s.es[k].y, i64 s.es[k].lo, i64 s.es[k].hi] 0), (23, .ros (s.es.flatMap entC) s.es.length c), (24, i64 ((s.es.length : Nat) : Int)), (25, i64 ((k : Nat) : Int))]) (H' := [(0, some (.cells [i64 0, i64 0, i64 0, i64 0] 30)), (2, some (.cells [i64 rate.1, i64 rate.2] 28)), (3, some (.cells [i64 high.1, i64 high.2] 28))]) ⟨⟨_, rfl, rfl⟩, ⟨_, rfl, rfl⟩, ⟨_, rfl, rfl⟩, ⟨_, rfl, rfl⟩, ⟨_, rfl, rfl⟩, ⟨_, rfl, rfl⟩, ⟨_, rfl, rfl⟩, ⟨_, rfl, rfl⟩, ⟨_, rfl, rfl⟩, ⟨_, rfl, rfl⟩, ⟨_, rfl, rfl⟩, trivial⟩ ⟨⟨rfl, rF rfl rfl⟩, ⟨rfl, rF rfl rfl⟩, ⟨rfl, rF rfl rfl⟩, trivial⟩ ?_
    refine W_seq rfl ?_
    refine WdrawL [32, 34] rfl (by kernel_rfl) (by kernel_rfl) ?_
    refine Dv rfl rfl rfl (U_move rfl) rfl rfl ?_
    refine Dv rfl rfl rfl (U_move rfl) rfl rfl ?_
    refine Dv rfl rfl rfl (U_call rfl rfl (ends_p s c k (by omega)) rfl) rfl rfl ?_
    refine Dv rfl rfl rfl (U_fieldAddrR rfl) rfl rfl ?_
    refine Dv rfl rfl rfl (U_load1 rfl rfl rfl) rfl rfl ?_
    refine Dv rfl rfl rfl (U_move rfl) rfl rfl ?_
    refine Dv rfl rfl rfl (U_sub rfl rfl (w64 (by omega) (by omega))) rfl rfl ?_
    refine Da rfl rfl rfl (U_alloc) rfl rfl rfl rfl ?_
    refine Dn_ rfl rfl rfl (U_storeAll rfl rfl rfl rfl rfl rfl) rfl rfl ?_
    refine Dv rfl rfl rfl (U_assign rfl) rfl rfl ?_
    refine Dr.nil rfl ?_
    refine thenQ_n ?_
    refine WfrN 5 rfl rfl (T' := [(0, .rop [i64 s.lo, i64 s.hi, .ros (s.es.flatMap entC) s.es.length c] 0), (1, i64 year), (4, .ptr 0 0), (5, .rop [i64 ((highQ s year).1), i64 ((highQ s year).2)] 0), (6, .ptr 2 0), (7, .ptr 3 0), (10, .rop [i64 s.es[k].lo, i64 s.es[k].hi] 0), (11, i64 (s.es[k].y - year)), (23, .ros (s.es.flatMap entC) s.es.length c), (24, i64 ((s.es.length : Nat) : Int)), (25, i64 ((k : Nat) : Int))]) (H' := [(0, some (.cells [i64 0, i64 0, i64 0, i64 0] 30)), (2, some (.cells [i64 rate.1, i64 rate.2] 28)), (3, some (.cells [i64 high.1, i64 high.2] 28))]) ⟨⟨_, rfl, rfl⟩, ⟨_, rfl, rfl⟩, ⟨_, rfl, rfl⟩, ⟨_, rfl, rfl⟩, ⟨_, rfl, rfl⟩, ⟨_, rfl, rfl⟩, ⟨_, rfl, rfl⟩, ⟨_, rfl, rfl⟩, ⟨_, rfl, rfl⟩, ⟨_, rfl, rfl⟩, ⟨_, rfl, rfl⟩, trivial⟩ ⟨⟨rfl, rF rfl rfl⟩, ⟨rfl, rF rfl rfl⟩, ⟨rfl, rF rfl rfl⟩, trivial⟩ ?_
    refine W_seq rfl ?_
    refine W_seq rfl ?_
    refine Wjoin ⟨[(0, .rop [i64 s.lo, i64 s.hi, .ros (s.es.flatMap entC) s.es.length c] 0), (1, i64 year), (4, .ptr 0 0), (5, .rop [i64 ((highQ s year).1), i64 ((highQ s year).2)] 0), (6, .ptr 2 0), (7, .ptr 3 0), (10, .rop [i64 s.es[k].lo, i64 s.es[k].hi] 0), (11, i64 (s.es[k].y - year)), (23, .ros (s.es.flatMap entC) s.es.length c), (24, i64 ((s.es.length : Nat) : Int)), (25, i64 ((k : Nat) : Int)), (43, .bool ((decide (s.es[k].lo = (-10000) ∧ s.es[k].hi = 10000)) || (decide ((s.es[k].y - year) = 0))))], [(0, some (.cells [i64 0, i64 0, i64 0, i64 0] 30)), (2, some (.cells [i64 rate.1, i64 rate.2] 28)), (3, some (.cells [i64 high.1, i64 high.2] 28))], 4, []⟩ ?_ ?_
    · refine W_reg rfl ?_
      refine Rv rfl rfl rfl (U_load2 rfl rfl rfl rfl) rfl rfl ?_
      refine Rv rfl rfl rfl (U_build rfl rfl) rfl rfl ?_
      refine Rv rfl rfl rfl (U_eqlA (p := s.es[k].lo = (-10000) ∧ s.es[k].hi = 10000) rfl rfl rfl rfl rfl rfl (by simp)) rfl rfl ?_
      refine Rv rfl rfl rfl (U_move rfl) rfl rfl ?_
      refine Rsplit (t := 40) rfl (fun hg2 => ?_) (fun hg2 => ?_)
      · rw [hg2]
        have hg2' : s.es[k].lo = (-10000) ∧ s.es[k].hi = 10000 := of_decide_eq_true hg2
        refine Rs rfl rfl rfl rfl rfl ?_
        refine Rs rfl rfl rfl rfl rfl ?_
        refine Rv rfl rfl rfl (U_pick_t rfl rfl) rfl rfl ?_
        refine Re rfl ?_
        exact joinTo id ⟨eD rfl rfl, eD rfl rfl, e_ rfl rfl, eD rfl rfl, e_ rfl rfl, e_ rfl rfl, eD rfl rfl, eD rfl rfl, eD rfl rfl, eD rfl rfl, eD rfl rfl, eD rfl rfl, trivial⟩ ⟨rD rfl rfl rfl, rD rfl rfl rfl, rD rfl rfl rfl, trivial⟩ rfl rfl rfl rfl (fun _ _ => rfl)
      · rw [hg2]
        have hg2' : ¬ (s.es[k].lo = (-10000) ∧ s.es[k].hi = 10000) := of_decide_eq_false hg2
        refine Rv rfl rfl rfl (U_move rfl) rfl rfl ?_
        refine Rv rfl rfl rfl (U_eql rfl rfl) rfl rfl ?_
        refine Rv rfl rfl rfl (U_pick_f rfl rfl) rfl rfl ?_
        refine Re rfl ?_
        exact joinTo id ⟨eD rfl rfl, eD rfl rfl, e_ rfl rfl, eD rfl rfl, e_ rfl rfl, e_ rfl rfl, eD rfl rfl, eD rfl rfl, eD rfl rfl, eD rfl rfl, eD rfl rfl, eD rfl rfl, trivial⟩ ⟨rD rfl rfl rfl, rD rfl rfl rfl, rD rfl rfl rfl, trivial⟩ rfl rfl rfl rfl (fun _ _ => rfl)
    refine thenQ_n ?_
    refine Wcond rfl rfl (fun hc1 => ?_) (fun hc1 => ?_)
    · refine W_exit rfl ?_
      refine thenQ_x ?_
      refine blkQ_x rfl ?_
      refine thenQ_n ?_
      refine W_reg rfl ?_
      refine Rv rfl rfl rfl (U_add rfl rfl (w64e (m := ((k + 1 : Nat) : Int)) (by omega) (by omega) (by omega))) rfl rfl ?_
      refine Rv rfl rfl rfl (U_move rfl) rfl rfl ?_
      refine Re rfl ?_
      refine thenQ_n ?_
      exact againTo (T' := [(0, .rop [i64 s.lo, i64 s.hi, .ros (s.es.flatMap entC) s.es.length c] 0), (1, i64 year), (4, .ptr 0 0), (5, .rop [i64 ((highQ s year).1), i64 ((highQ s year).2)] 0), (6, .ptr 2 0), (7, .ptr 3 0), (23, .ros (s.es.flatMap entC) s.es.length c), (24, i64 ((s.es.length : Nat) : Int)), (25, i64 (((k + 1) : Nat) : Int))]) (H' := [(0, some (.cells [i64 0, i64 0, i64 0, i64 0] 30)), (2, some (.cells [i64 rate.1, i64 rate.2] 28)), (3, some (.cells [i64 high.1, i64 high.2] 28))]) (n := 4) (s.es.length - (k + 1)) ⟨k + 1, rate, high, (by omega), (by rw [take_succ' hck, List.foldl_append, ← hi0_1]; simp only [List.foldl_cons, List.foldl_nil]; first | (rw [mot0 hc1]; done) | (rw [motT hc1 hc2]; rfl) | (rw [motF hc1 hc2]; rfl)), (by first | exact hi0_2 | exact moreOf_bd hi0_2 hs1), (by first | exact hi0_3 | exact lessOf_bd hi0_3 hs2), rfl, rfl⟩ (by omega) id ⟨eD rfl rfl, eD rfl rfl, e_ rfl rfl, eD rfl rfl, e_ rfl rfl, e_ rfl rfl, eD rfl rfl, eD rfl rfl, eD rfl rfl, trivial⟩ ⟨rD rfl rfl rfl, rD rfl rfl rfl, rD rfl rfl rfl, trivial⟩ rfl rfl rfl rfl (fun _ _ => rfl)
    · have hc1' := Bool.eq_false_iff.1 hc1
      have h1s := hc1
      simp only [Bool.or_eq_false_iff, decide_eq_false_iff_not] at h1s
      refine W_skip rfl ?_
      refine thenQ_n ?_
      refine W_block rfl ?_
      refine W_seq rfl ?_
      refine W_reg rfl ?_
      refine Rv rfl rfl rfl (U_move rfl) rfl rfl ?_
      refine Rv rfl rfl rfl (U_gtr rfl rfl) rfl rfl ?_
      refine Rv rfl rfl rfl (U_assign rfl) rfl rfl ?_
      refine Re rfl ?_
      refine thenQ_n ?_
      refine WcondP rfl rfl (fun hc2 => ?_) (fun hc2 => ?_)
      · refine W_seq rfl ?_
        refine Wdraw rfl (by kernel_rfl) (by kernel_rfl) ?_
        refine Dv rfl rfl rfl (U_load2 rfl rfl rfl rfl) rfl rfl ?_
        refine Dv rfl rfl rfl (U_indexAR (j := 0) rfl rfl rfl (by decide)) rfl rfl ?_
        refine Dv rfl rfl rfl (U_load1 rfl rfl rfl) rfl rfl ?_
        refine Dv rfl rfl rfl (U_move rfl) rfl rfl ?_
        have hs1 := steep_bd (to := s.es[k].lo) (d := s.es[k].y - year) hat ⟨by omega, by omega⟩ ⟨by omega, by omega⟩ (by omega)
        have hat9 := bd_le hat (show (6000000 : Int) ≤ 1000000000 by omega) (show (200 : Int) ≤ 40000 by omega)
        refine Dv rfl rfl rfl (U_call rfl rfl (steep_p (highQ s year) s.es[k].lo (s.es[k].y - year) (by assumption) (by omega) (by omega) (by omega)) rfl) rfl rfl ?_
        refine Dv rfl rfl rfl (U_load2 rfl rfl rfl rfl) rfl rfl ?_
        refine Dv rfl rfl rfl (U_load2 rfl rfl rfl rfl) rfl rfl ?_
        refine Dv rfl rfl rfl (U_load2 rfl rfl rfl rfl) rfl rfl ?_
        refine Dv rfl rfl rfl (U_indexAR (j := 0) rfl rfl rfl (by decide)) rfl rfl ?_
        refine Dv rfl rfl rfl (U_load1 rfl rfl rfl) rfl rfl ?_
        refine Dv rfl rfl rfl (U_move rfl) rfl rfl ?_
        refine Dv rfl rfl rfl (U_call rfl rfl (steep_p (highQ s year) s.es[k].lo (s.es[k].y - year) (by assumption) (by omega) (by omega) (by omega)) rfl) rfl rfl ?_
        have hq := bd_prod hi0_2 hs1 (by omega)
        have hq2 := bd_prod hs1 hi0_2 (by omega)
        refine Dv rfl rfl rfl (U_call rfl rfl (less_p rate (steepQ (highQ s year) s.es[k].lo (s.es[k].y - year)) (by omega) (by omega)) rfl) rfl rfl ?_
        refine Dv rfl rfl rfl (U_call rfl rfl (firstQ_p (steepQ (highQ s year) s.es[k].lo (s.es[k].y - year)) rate (lessQ rate (steepQ (highQ s year) s.es[k].lo (s.es[k].y - year)))) rfl) rfl rfl ?_
        refine Dn_ rfl rfl rfl (U_storeAll rfl rfl rfl rfl rfl rfl) rfl rfl ?_
        refine Dr.nil rfl ?_
        refine thenQ_n ?_
        refine Wdraw rfl (by kernel_rfl) (by kernel_rfl) ?_
        refine Dv rfl rfl rfl (U_load2 rfl rfl rfl rfl) rfl rfl ?_
        refine Dv rfl rfl rfl (U_indexAR (j := 1) rfl rfl rfl (by decide)) rfl rfl ?_
        refine Dv rfl rfl rfl (U_load1 rfl rfl rfl) rfl rfl ?_
        refine Dv rfl rfl rfl (U_move rfl) rfl rfl ?_
        have hs2 := steep_bd (to := s.es[k].hi) (d := s.es[k].y - year) hat ⟨by omega, by omega⟩ ⟨by omega, by omega⟩ (by omega)
        refine Dv rfl rfl rfl (U_call rfl rfl (steep_p (highQ s year) s.es[k].hi (s.es[k].y - year) (by assumption) (by omega) (by omega) (by omega)) rfl) rfl rfl ?_
        refine Dv rfl rfl rfl (U_load2 rfl rfl rfl rfl) rfl rfl ?_
        refine Dv rfl rfl rfl (U_load2 rfl rfl rfl rfl) rfl rfl ?_
        refine Dv rfl rfl rfl (U_indexAR (j := 1) rfl rfl rfl (by decide)) rfl rfl ?_
        refine Dv rfl rfl rfl (U_load1 rfl rfl rfl) rfl rfl ?_
        refine Dv rfl rfl rfl (U_move rfl) rfl rfl ?_
        refine Dv rfl rfl rfl (U_call rfl rfl (steep_p (highQ s year) s.es[k].hi (s.es[k].y - year) (by assumption) (by omega) (by omega) (by omega)) rfl) rfl rfl ?_
        refine Dv rfl rfl rfl (U_load2 rfl rfl rfl rfl) rfl rfl ?_
        have hq3 := bd_prod hi0_3 hs2 (by omega)
        have hq4 := bd_prod hs2 hi0_3 (by omega)
        refine Dv rfl rfl rfl (U_call rfl rfl (less_p (steepQ (highQ s year) s.es[k].hi (s.es[k].y - year)) high (by omega) (by omega)) rfl) rfl rfl ?_
        refine Dv rfl rfl rfl (U_call rfl rfl (firstQ_p (steepQ (highQ s year) s.es[k].hi (s.es[k].y - year)) high (lessQ (steepQ (highQ s year) s.es[k].hi (s.es[k].y - year)) high)) rfl) rfl rfl ?_
        refine Dn_ rfl rfl rfl (U_storeAll rfl rfl rfl rfl rfl rfl) rfl rfl ?_
        refine Dr.nil rfl ?_
        refine blkQ_n ?_
        refine blkQ_n ?_
        refine thenQ_n ?_
        refine W_reg rfl ?_
        refine Rv rfl rfl rfl (U_add rfl rfl (w64e (m := ((k + 1 : Nat) : Int)) (by omega) (by omega) (by omega))) rfl rfl ?_
        refine Rv rfl rfl rfl (U_move rfl) rfl rfl ?_
        refine Re rfl ?_
        refine thenQ_n ?_
        exact againTo (T' := [(0, .rop [i64 s.lo, i64 s.hi, .ros (s.es.flatMap entC) s.es.length c] 0), (1, i64 year), (4, .ptr 0 0), (5, .rop [i64 ((highQ s year).1), i64 ((highQ s year).2)] 0), (6, .ptr 2 0), (7, .ptr 3 0), (23, .ros (s.es.flatMap entC) s.es.length c), (24, i64 ((s.es.length : Nat) : Int)), (25, i64 (((k + 1) : Nat) : Int))]) (H' := [(0, some (.cells [i64 0, i64 0, i64 0, i64 0] 30)), (2, some (.cells [i64 (if (lessQ rate (steepQ (highQ s year) s.es[k].lo (s.es[k].y - year))) = true then (steepQ (highQ s year) s.es[k].lo (s.es[k].y - year)) else rate).1, i64 (if (lessQ rate (steepQ (highQ s year) s.es[k].lo (s.es[k].y - year))) = true then (steepQ (highQ s year) s.es[k].lo (s.es[k].y - year)) else rate).2] 28)), (3, some (.cells [i64 (if (lessQ (steepQ (highQ s year) s.es[k].hi (s.es[k].y - year)) high) = true then (steepQ (highQ s year) s.es[k].hi (s.es[k].y - year)) else high).1, i64 (if (lessQ (steepQ (highQ s year) s.es[k].hi (s.es[k].y - year)) high) = true then (steepQ (highQ s year) s.es[k].hi (s.es[k].y - year)) else high).2] 28))]) (n := 4) (s.es.length - (k + 1)) ⟨k + 1, if (lessQ rate (steepQ (highQ s year) s.es[k].lo (s.es[k].y - year))) = true then (steepQ (highQ s year) s.es[k].lo (s.es[k].y - year)) else rate, if (lessQ (steepQ (highQ s year) s.es[k].hi (s.es[k].y - year)) high) = true then (steepQ (highQ s year) s.es[k].hi (s.es[k].y - year)) else high, (by omega), (by rw [take_succ' hck, List.foldl_append, ← hi0_1]; simp only [List.foldl_cons, List.foldl_nil]; first | (rw [mot0 hc1]; done) | (rw [motT hc1 hc2]; rfl) | (rw [motF hc1 hc2]; rfl)), (by first | exact hi0_2 | exact moreOf_bd hi0_2 hs1), (by first | exact hi0_3 | exact lessOf_bd hi0_3 hs2), rfl, rfl⟩ (by omega) id ⟨eD rfl rfl, eD rfl rfl, e_ rfl rfl, eD rfl rfl, e_ rfl rfl, e_ rfl rfl, eD rfl rfl, eD rfl rfl, eD rfl rfl, trivial⟩ ⟨rD rfl rfl rfl, rD rfl rfl rfl, rD rfl rfl rfl, trivial⟩ rfl rfl rfl rfl (fun _ _ => rfl)
      · refine W_seq rfl ?_
        refine W_reg rfl ?_
        refine Rv rfl rfl rfl (U_move rfl) rfl rfl ?_
        refine Rv rfl rfl rfl (U_lss rfl rfl) rfl rfl ?_
        refine Rv rfl rfl rfl (U_assign rfl) rfl rfl ?_
        refine Re rfl ?_
        refine thenQ_n ?_
        refine WcondP rfl rfl (fun hc3 => ?_) (fun hc3 => absurd (by omega) hc3)
        refine W_seq rfl ?_
        refine Wdraw rfl (by kernel_rfl) (by kernel_rfl) ?_
        refine Dv rfl rfl rfl (U_load2 rfl rfl rfl rfl) rfl rfl ?_
        refine Dv rfl rfl rfl (U_indexAR (j := 1) rfl rfl rfl (by decide)) rfl rfl ?_
        refine Dv rfl rfl rfl (U_load1 rfl rfl rfl) rfl rfl ?_
        refine Dv rfl rfl rfl (U_move rfl) rfl rfl ?_
        have hs1 := steep_bd (to := s.es[k].hi) (d := s.es[k].y - year) hat ⟨by omega, by omega⟩ ⟨by omega, by omega⟩ (by omega)
        have hat9 := bd_le hat (show (6000000 : Int) ≤ 1000000000 by omega) (show (200 : Int) ≤ 40000 by omega)
        refine Dv rfl rfl rfl (U_call rfl rfl (steep_p (highQ s year) s.es[k].hi (s.es[k].y - year) (by assumption) (by omega) (by omega) (by omega)) rfl) rfl rfl ?_
        refine Dv rfl rfl rfl (U_load2 rfl rfl rfl rfl) rfl rfl ?_
        refine Dv rfl rfl rfl (U_load2 rfl rfl rfl rfl) rfl rfl ?_
        refine Dv rfl rfl rfl (U_load2 rfl rfl rfl rfl) rfl rfl ?_
        refine Dv rfl rfl rfl (U_indexAR (j := 1) rfl rfl rfl (by decide)) rfl rfl ?_
        refine Dv rfl rfl rfl (U_load1 rfl rfl rfl) rfl rfl ?_
        refine Dv rfl rfl rfl (U_move rfl) rfl rfl ?_
        refine Dv rfl rfl rfl (U_call rfl rfl (steep_p (highQ s year) s.es[k].hi (s.es[k].y - year) (by assumption) (by omega) (by omega) (by omega)) rfl) rfl rfl ?_
        have hq := bd_prod hi0_2 hs1 (by omega)
        have hq2 := bd_prod hs1 hi0_2 (by omega)
        refine Dv rfl rfl rfl (U_call rfl rfl (less_p rate (steepQ (highQ s year) s.es[k].hi (s.es[k].y - year)) (by omega) (by omega)) rfl) rfl rfl ?_
        refine Dv rfl rfl rfl (U_call rfl rfl (firstQ_p (steepQ (highQ s year) s.es[k].hi (s.es[k].y - year)) rate (lessQ rate (steepQ (highQ s year) s.es[k].hi (s.es[k].y - year)))) rfl) rfl rfl ?_
        refine Dn_ rfl rfl rfl (U_storeAll rfl rfl rfl rfl rfl rfl) rfl rfl ?_
        refine Dr.nil rfl ?_
        refine thenQ_n ?_
        refine Wdraw rfl (by kernel_rfl) (by kernel_rfl) ?_
        refine Dv rfl rfl rfl (U_load2 rfl rfl rfl rfl) rfl rfl ?_
        refine Dv rfl rfl rfl (U_indexAR (j := 0) rfl rfl rfl (by decide)) rfl rfl ?_
        refine Dv rfl rfl rfl (U_load1 rfl rfl rfl) rfl rfl ?_
        refine Dv rfl rfl rfl (U_move rfl) rfl rfl ?_
        have hs2 := steep_bd (to := s.es[k].lo) (d := s.es[k].y - year) hat ⟨by omega, by omega⟩ ⟨by omega, by omega⟩ (by omega)
        refine Dv rfl rfl rfl (U_call rfl rfl (steep_p (highQ s year) s.es[k].lo (s.es[k].y - year) (by assumption) (by omega) (by omega) (by omega)) rfl) rfl rfl ?_
        refine Dv rfl rfl rfl (U_load2 rfl rfl rfl rfl) rfl rfl ?_
        refine Dv rfl rfl rfl (U_load2 rfl rfl rfl rfl) rfl rfl ?_
        refine Dv rfl rfl rfl (U_indexAR (j := 0) rfl rfl rfl (by decide)) rfl rfl ?_
        refine Dv rfl rfl rfl (U_load1 rfl rfl rfl) rfl rfl ?_
        refine Dv rfl rfl rfl (U_move rfl) rfl rfl ?_
        refine Dv rfl rfl rfl (U_call rfl rfl (steep_p (highQ s year) s.es[k].lo (s.es[k].y - year) (by assumption) (by omega) (by omega) (by omega)) rfl) rfl rfl ?_
        refine Dv rfl rfl rfl (U_load2 rfl rfl rfl rfl) rfl rfl ?_
        have hq3 := bd_prod hi0_3 hs2 (by omega)
        have hq4 := bd_prod hs2 hi0_3 (by omega)
        refine Dv rfl rfl rfl (U_call rfl rfl (less_p (steepQ (highQ s year) s.es[k].lo (s.es[k].y - year)) high (by omega) (by omega)) rfl) rfl rfl ?_
        refine Dv rfl rfl rfl (U_call rfl rfl (firstQ_p (steepQ (highQ s year) s.es[k].lo (s.es[k].y - year)) high (lessQ (steepQ (highQ s year) s.es[k].lo (s.es[k].y - year)) high)) rfl) rfl rfl ?_
        refine Dn_ rfl rfl rfl (U_storeAll rfl rfl rfl rfl rfl rfl) rfl rfl ?_
        refine Dr.nil rfl ?_
        refine blkQ_n ?_
        refine blkQ_n ?_
        refine thenQ_n ?_
        refine W_reg rfl ?_
        refine Rv rfl rfl rfl (U_add rfl rfl (w64e (m := ((k + 1 : Nat) : Int)) (by omega) (by omega) (by omega))) rfl rfl ?_
        refine Rv rfl rfl rfl (U_move rfl) rfl rfl ?_
        refine Re rfl ?_
        refine thenQ_n ?_
        exact againTo (T' := [(0, .rop [i64 s.lo, i64 s.hi, .ros (s.es.flatMap entC) s.es.length c] 0), (1, i64 year), (4, .ptr 0 0), (5, .rop [i64 ((highQ s year).1), i64 ((highQ s year).2)] 0), (6, .ptr 2 0), (7, .ptr 3 0), (23, .ros (s.es.flatMap entC) s.es.length c), (24, i64 ((s.es.length : Nat) : Int)), (25, i64 (((k + 1) : Nat) : Int))]) (H' := [(0, some (.cells [i64 0, i64 0, i64 0, i64 0] 30)), (2, some (.cells [i64 (if (lessQ rate (steepQ (highQ s year) s.es[k].hi (s.es[k].y - year))) = true then (steepQ (highQ s year) s.es[k].hi (s.es[k].y - year)) else rate).1, i64 (if (lessQ rate (steepQ (highQ s year) s.es[k].hi (s.es[k].y - year))) = true then (steepQ (highQ s year) s.es[k].hi (s.es[k].y - year)) else rate).2] 28)), (3, some (.cells [i64 (if (lessQ (steepQ (highQ s year) s.es[k].lo (s.es[k].y - year)) high) = true then (steepQ (highQ s year) s.es[k].lo (s.es[k].y - year)) else high).1, i64 (if (lessQ (steepQ (highQ s year) s.es[k].lo (s.es[k].y - year)) high) = true then (steepQ (highQ s year) s.es[k].lo (s.es[k].y - year)) else high).2] 28))]) (n := 4) (s.es.length - (k + 1)) ⟨k + 1, if (lessQ rate (steepQ (highQ s year) s.es[k].hi (s.es[k].y - year))) = true then (steepQ (highQ s year) s.es[k].hi (s.es[k].y - year)) else rate, if (lessQ (steepQ (highQ s year) s.es[k].lo (s.es[k].y - year)) high) = true then (steepQ (highQ s year) s.es[k].lo (s.es[k].y - year)) else high, (by omega), (by rw [take_succ' hck, List.foldl_append, ← hi0_1]; simp only [List.foldl_cons, List.foldl_nil]; first | (rw [mot0 hc1]; done) | (rw [motT hc1 hc2]; rfl) | (rw [motF hc1 hc2]; rfl)), (by first | exact hi0_2 | exact moreOf_bd hi0_2 hs1), (by first | exact hi0_3 | exact lessOf_bd hi0_3 hs2), rfl, rfl⟩ (by omega) id ⟨eD rfl rfl, eD rfl rfl, e_ rfl rfl, eD rfl rfl, e_ rfl rfl, e_ rfl rfl, eD rfl rfl, eD rfl rfl, eD rfl rfl, trivial⟩ ⟨rD rfl rfl rfl, rD rfl rfl rfl, rD rfl rfl rfl, trivial⟩ rfl rfl rfl rfl (fun _ _ => rfl)
  · obtain rfl : k = s.es.length := by omega
    refine W_exit rfl ?_
    refine thenQ_x ?_
    refine thenQ_x ?_
    refine blkQ_x rfl ?_
    refine thenQ_n ?_
    refine W_seq rfl ?_
    refine Wdraw rfl (by kernel_rfl) (by kernel_rfl) ?_
    refine Dv rfl rfl rfl (U_load2 rfl rfl rfl rfl) rfl rfl ?_
    refine Dv rfl rfl rfl (U_load2 rfl rfl rfl rfl) rfl rfl ?_
    refine Dv rfl rfl rfl (U_load2 rfl rfl rfl rfl) rfl rfl ?_
    refine Dv rfl rfl rfl (U_load2 rfl rfl rfl rfl) rfl rfl ?_
    have hq5 := bd_prod hi0_3 hi0_2 (by omega)
    have hq6 := bd_prod hi0_2 hi0_3 (by omega)
    refine Dv rfl rfl rfl (U_call rfl rfl (less_p high rate (by omega) (by omega)) rfl) rfl rfl ?_
    refine Dv rfl rfl rfl (U_call rfl rfl (firstQ_p high rate (lessQ high rate)) rfl) rfl rfl ?_
    refine Dn_ rfl rfl rfl (U_storeAll rfl rfl rfl rfl rfl rfl) rfl rfl ?_
    refine Dr.nil rfl ?_
    refine thenQ_n ?_
    refine W_seq rfl ?_
    refine Wdraw rfl (by kernel_rfl) (by kernel_rfl) ?_
    refine Dv rfl rfl rfl (U_load2 rfl rfl rfl rfl) rfl rfl ?_
    refine Dv rfl rfl rfl (U_load2 rfl rfl rfl rfl) rfl rfl ?_
    refine Dv rfl rfl rfl (U_move rfl) rfl rfl ?_
    refine Dv rfl rfl rfl (U_neg rfl (w64 (by omega) (by omega))) rfl rfl ?_
    have hat9 := bd_le hat (show (6000000 : Int) ≤ 1000000000 by omega) (show (200 : Int) ≤ 40000 by omega)
    have hl9 := bd8 (lessOf_bd hi0_2 hi0_3)
    refine Dv rfl rfl rfl (U_call rfl rfl (carried_p (highQ s year) (if (lessQ high rate) = true then high else rate) (-year) hat9 hl9 (by omega)) rfl) rfl rfl ?_
    refine Dv rfl rfl rfl (U_load2 rfl rfl rfl rfl) rfl rfl ?_
    refine Dv rfl rfl rfl (U_build rfl rfl) rfl rfl ?_
    refine Dn_ rfl rfl rfl (U_storeAll rfl rfl rfl rfl rfl rfl) rfl rfl ?_
    refine Dr.nil rfl ?_
    refine thenQ_n ?_
    refine W_ret rfl ?_
    exact retL (rlA rfl rfl rfl rl0) (by first | rfl | (simp only [packA]; rw [List.take_length] at hi0_1; simp only [motP, motR, motQ, ← hi0_1]; rfl; first | done | rfl)) rfl
end Go.Proofs.Ytapappdgdiaijaa
end
