import Derived.Test.YtapappdgdiaijaaM7
section
/- DriftKnown. -/
namespace Go.Proofs.Ytapappdgdiaijaa
set_option maxRecDepth 20000
open Go.AE
theorem k1 : cbS goodS (0, 1) = 0 ∧ bnd goodS false (0, 1) = (8, 5) ∧ cbS goodS (1, 2) = 0 ∧ bnd goodS true (1, 2) = (9, 5) ∧ cbS goodS (-1, -1) = 0 ∧ bnd goodS true (-1, -1) = (10, 1) := by decide +kernel
theorem k2 : plcS goodS 50 = 0 ∧ lowQ goodS 50 = (184, 1) ∧ highQ goodS 50 = (192, 1) ∧ plcS goodS 201 = 2 := by decide +kernel
theorem k3 : chkM goodS (104, 0) (8, 5) = 3 ∧ ccS badS (0, 1) (1, 2) = 0 ∧ ccS badS (3, 2) (1, 2) = 2 := by decide +kernel
theorem k4 : chkS goodS = 0 ∧ fewQ goodS = 0 ∧ leftS badS [2] = 0 ∧ kndS badS 0 = 0 ∧ kindQ badS 0 = 0 := by decide +kernel
theorem v1_p : Pure Try.prog 23 [starA goodS (some 3), .bool false, i64 0, i64 1] (.tup [.agg [i64 8, i64 5], i64 0]) := by have h := checkBound_p goodS (some 3) (by decide) false 0 1; simp only [k1.1, k1.2.1, if_true] at h; exact h
theorem v2_p : Pure Try.prog 23 [starA goodS (some 3), .bool true, i64 1, i64 2] (.tup [.agg [i64 9, i64 5], i64 0]) := by have h := checkBound_p goodS (some 3) (by decide) true 1 2; simp only [k1.2.2.1, k1.2.2.2.1, if_true] at h; exact h
theorem v3_p : Pure Try.prog 23 [starA goodS (some 3), .bool true, i64 (-1), i64 (-1)] (.tup [.agg [i64 10, i64 1], i64 0]) := by have h := checkBound_p goodS (some 3) (by decide) true (-1) (-1); simp only [k1.2.2.2.2.1, k1.2.2.2.2.2, if_true] at h; exact h
theorem v4_p : Pure Try.prog 34 [starA goodS (some 3), i64 50] (.tup [.agg [i64 184, i64 1], .agg [i64 192, i64 1], i64 0]) := by have h := place_p goodS (some 3) (by decide) 50; simp only [k2.1, k2.2.1, k2.2.2.1, if_true] at h; exact h
theorem v5_p : Pure Try.prog 34 [starA goodS (some 3), i64 201] (.tup [.agg [i64 0, i64 0], .agg [i64 0, i64 0], i64 2]) := by have h := place_p goodS (some 3) (by decide) 201; simp only [k2.2.2.2, show ¬ (2 : Int) = 0 by decide, if_false] at h; exact h
theorem v6_p : Pure Try.prog 21 [starA goodS (some 3), .agg [i64 104, i64 0, i64 8, i64 5]] (i64 3) := by have h := checkMotion_p goodS (some 3) (by decide) (104, 0) (8, 5); simp only [k3.1] at h; exact h
theorem v7_p : Pure Try.prog 30 [starA badS (some 4), .agg [i64 0, i64 1], .agg [i64 1, i64 2]] (i64 0) := by have h := checkClash_p badS (some 4) (by decide) (0, 1) (1, 2); simp only [k3.2.1] at h; exact h
theorem v8_p : Pure Try.prog 30 [starA badS (some 4), .agg [i64 3, i64 2], .agg [i64 1, i64 2]] (i64 2) := by have h := checkClash_p badS (some 4) (by decide) (3, 2) (1, 2); simp only [k3.2.2] at h; exact h
theorem v9_p : Pure Try.prog 38 [starA goodS (some 3)] (.tup [i64 0, i64 0]) := by have h := fewest_p goodS (some 3) (by decide); simp only [k4.1, k4.2.1, if_true] at h; exact h
theorem v10_p : Pure Try.prog 43 [starA badS (some 4), intsA [2] (some 1)] (i64 0) := by have h := checkLeft_p badS (some 4) (by decide) [2] (some 1) (by decide); simp only [k4.2.2.1] at h; exact h
theorem v11_p : Pure Try.prog 41 [starA badS (some 4), i64 0] (.tup [i64 0, i64 0]) := by have h := kind_p badS (some 4) (by decide) 0; simp only [k4.2.2.2.1, k4.2.2.2.2, if_true] at h; exact h
theorem driftKnown_p  : Pure Try.prog 16 [] (.bool true) := by
  refine pure_of_body Try.func16 (c := body Try.f16) rfl (by simp [Try.ntmps16]) fun w0 Φ0 => ?_
  refine W_seq rfl ?_
  refine W_reg rfl ?_
  refine Rv rfl rfl rfl (U_assign rfl) rfl rfl ?_
  refine Re rfl ?_
  refine thenQ_n ?_
  refine W_seq rfl ?_
  refine W_reg rfl ?_
  refine Rv rfl rfl rfl (U_call rfl rfl (goodOf_p) rfl) rfl rfl ?_
  refine Rv rfl rfl rfl (U_call rfl rfl (badOf_p) rfl) rfl rfl ?_
  refine Ra rfl rfl rfl (U_alloc) rfl rfl rfl ?_
  refine Ra rfl rfl rfl (U_alloc) rfl rfl rfl ?_
  refine Rn rfl rfl rfl (U_storeAll rfl rfl rfl rfl rfl rfl) rfl ?_
  refine Rn rfl rfl rfl (U_storeAll rfl rfl rfl rfl rfl rfl) rfl ?_
  refine Re rfl ?_
  refine thenQ_n ?_
  refine WfrN 0 rfl rfl (T' := [(1, .rop [i64 goodS.lo, i64 goodS.hi, .ros (goodS.es.flatMap entC) goodS.es.length (some 3)] 0), (2, .ptr 1 0)]) (H' := [(1, some (.cells [i64 badS.lo, i64 badS.hi, .ros (badS.es.flatMap entC) badS.es.length (some 4)] 26))]) ⟨⟨_, rfl, rfl⟩, ⟨_, rfl, rfl⟩, trivial⟩ ⟨⟨rfl, rF rfl rfl⟩, trivial⟩ ?_
  refine WfrN 1 rfl rfl (T' := [(1, .rop [i64 goodS.lo, i64 goodS.hi, .ros (goodS.es.flatMap entC) goodS.es.length (some 3)] 0), (2, .rop [i64 badS.lo, i64 badS.hi, .ros (badS.es.flatMap entC) badS.es.length (some 4)] 0)]) (H' := []) ⟨⟨_, rfl, rfl⟩, ⟨_, rfl, rfl⟩, trivial⟩ trivial ?_
  refine W_seq rfl ?_
  refine W_reg rfl ?_
  refine Rv rfl rfl rfl (U_load3 rfl rfl rfl rfl rfl) rfl rfl ?_
  refine Rv rfl rfl rfl (U_call rfl rfl (v1_p) rfl) rfl rfl ?_
  refine Rv rfl rfl rfl (U_move rfl) rfl rfl ?_
  refine Rv rfl rfl rfl (U_extract rfl rfl) rfl rfl ?_
  refine Rv rfl rfl rfl (U_extract rfl rfl) rfl rfl ?_
  refine Ra rfl rfl rfl (U_alloc) rfl rfl rfl ?_
  refine Rn rfl rfl rfl (U_storeAll rfl rfl rfl rfl rfl rfl) rfl ?_
  refine Rv rfl rfl rfl (U_assign rfl) rfl rfl ?_
  refine Re rfl ?_
  refine thenQ_n ?_
  refine WfrN 2 rfl rfl (T' := [(1, .rop [i64 goodS.lo, i64 goodS.hi, .ros (goodS.es.flatMap entC) goodS.es.length (some 3)] 0), (2, .rop [i64 badS.lo, i64 badS.hi, .ros (badS.es.flatMap entC) badS.es.length (some 4)] 0), (3, .rop [i64 8, i64 5] 0), (4, i64 0)]) (H' := []) ⟨⟨_, rfl, rfl⟩, ⟨_, rfl, rfl⟩, ⟨_, rfl, rfl⟩, ⟨_, rfl, rfl⟩, trivial⟩ trivial ?_
  refine W_seq rfl ?_
  refine W_reg rfl ?_
  refine Rv rfl rfl rfl (U_load3 rfl rfl rfl rfl rfl) rfl rfl ?_
  refine Rv rfl rfl rfl (U_call rfl rfl (v2_p) rfl) rfl rfl ?_
  refine Rv rfl rfl rfl (U_move rfl) rfl rfl ?_
  refine Rv rfl rfl rfl (U_extract rfl rfl) rfl rfl ?_
  refine Rv rfl rfl rfl (U_extract rfl rfl) rfl rfl ?_
  refine Ra rfl rfl rfl (U_alloc) rfl rfl rfl ?_
  refine Rn rfl rfl rfl (U_storeAll rfl rfl rfl rfl rfl rfl) rfl ?_
  refine Rv rfl rfl rfl (U_assign rfl) rfl rfl ?_
  refine Re rfl ?_
  refine thenQ_n ?_
  refine WfrN 3 rfl rfl (T' := [(1, .rop [i64 goodS.lo, i64 goodS.hi, .ros (goodS.es.flatMap entC) goodS.es.length (some 3)] 0), (2, .rop [i64 badS.lo, i64 badS.hi, .ros (badS.es.flatMap entC) badS.es.length (some 4)] 0), (3, .rop [i64 8, i64 5] 0), (4, i64 0), (5, .rop [i64 9, i64 5] 0), (6, i64 0)]) (H' := []) ⟨⟨_, rfl, rfl⟩, ⟨_, rfl, rfl⟩, ⟨_, rfl, rfl⟩, ⟨_, rfl, rfl⟩, ⟨_, rfl, rfl⟩, ⟨_, rfl, rfl⟩, trivial⟩ trivial ?_
  refine W_seq rfl ?_
  refine W_reg rfl ?_
  refine Rv rfl rfl rfl (U_load3 rfl rfl rfl rfl rfl) rfl rfl ?_
  refine Rv rfl rfl rfl (U_call rfl rfl (v3_p) rfl) rfl rfl ?_
  refine Rv rfl rfl rfl (U_move rfl) rfl rfl ?_
  refine Rv rfl rfl rfl (U_extract rfl rfl) rfl rfl ?_
  refine Rv rfl rfl rfl (U_extract rfl rfl) rfl rfl ?_
  refine Ra rfl rfl rfl (U_alloc) rfl rfl rfl ?_
  refine Rn rfl rfl rfl (U_storeAll rfl rfl rfl rfl rfl rfl) rfl ?_
  refine Rv rfl rfl rfl (U_assign rfl) rfl rfl ?_
  refine Re rfl ?_
  refine thenQ_n ?_
  refine WfrN 4 rfl rfl (T' := [(1, .rop [i64 goodS.lo, i64 goodS.hi, .ros (goodS.es.flatMap entC) goodS.es.length (some 3)] 0), (2, .rop [i64 badS.lo, i64 badS.hi, .ros (badS.es.flatMap entC) badS.es.length (some 4)] 0), (3, .rop [i64 8, i64 5] 0), (4, i64 0), (5, .rop [i64 9, i64 5] 0), (6, i64 0), (7, .rop [i64 10, i64 1] 0), (8, i64 0)]) (H' := []) ⟨⟨_, rfl, rfl⟩, ⟨_, rfl, rfl⟩, ⟨_, rfl, rfl⟩, ⟨_, rfl, rfl⟩, ⟨_, rfl, rfl⟩, ⟨_, rfl, rfl⟩, ⟨_, rfl, rfl⟩, ⟨_, rfl, rfl⟩, trivial⟩ trivial ?_
  refine W_seq rfl ?_
  refine W_reg rfl ?_
  refine Rv rfl rfl rfl (U_load3 rfl rfl rfl rfl rfl) rfl rfl ?_
  refine Rv rfl rfl rfl (U_call rfl rfl (v4_p) rfl) rfl rfl ?_
  refine Rv rfl rfl rfl (U_move rfl) rfl rfl ?_
  refine Rv rfl rfl rfl (U_extract rfl rfl) rfl rfl ?_
  refine Rv rfl rfl rfl (U_extract rfl rfl) rfl rfl ?_
  refine Rv rfl rfl rfl (U_extract rfl rfl) rfl rfl ?_
  refine Ra rfl rfl rfl (U_alloc) rfl rfl rfl ?_
  refine Ra rfl rfl rfl (U_alloc) rfl rfl rfl ?_
  refine Rn rfl rfl rfl (U_storeAll rfl rfl rfl rfl rfl rfl) rfl ?_
  refine Rn rfl rfl rfl (U_storeAll rfl rfl rfl rfl rfl rfl) rfl ?_
  refine Rv rfl rfl rfl (U_assign rfl) rfl rfl ?_
  refine Re rfl ?_
  refine thenQ_n ?_
  refine WfrN 5 rfl rfl (T' := [(1, .rop [i64 goodS.lo, i64 goodS.hi, .ros (goodS.es.flatMap entC) goodS.es.length (some 3)] 0), (2, .rop [i64 badS.lo, i64 badS.hi, .ros (badS.es.flatMap entC) badS.es.length (some 4)] 0), (3, .rop [i64 8, i64 5] 0), (4, i64 0), (5, .rop [i64 9, i64 5] 0), (6, i64 0), (7, .rop [i64 10, i64 1] 0), (8, i64 0), (9, .rop [i64 184, i64 1] 0), (10, .ptr 6 0), (11, i64 0)]) (H' := [(6, some (.cells [i64 192, i64 1] 28))]) ⟨⟨_, rfl, rfl⟩, ⟨_, rfl, rfl⟩, ⟨_, rfl, rfl⟩, ⟨_, rfl, rfl⟩, ⟨_, rfl, rfl⟩, ⟨_, rfl, rfl⟩, ⟨_, rfl, rfl⟩, ⟨_, rfl, rfl⟩, ⟨_, rfl, rfl⟩, ⟨_, rfl, rfl⟩, ⟨_, rfl, rfl⟩, trivial⟩ ⟨⟨rfl, rF rfl rfl⟩, trivial⟩ ?_
  refine WfrN 6 rfl rfl (T' := [(1, .rop [i64 goodS.lo, i64 goodS.hi, .ros (goodS.es.flatMap entC) goodS.es.length (some 3)] 0), (2, .rop [i64 badS.lo, i64 badS.hi, .ros (badS.es.flatMap entC) badS.es.length (some 4)] 0), (3, .rop [i64 8, i64 5] 0), (4, i64 0), (5, .rop [i64 9, i64 5] 0), (6, i64 0), (7, .rop [i64 10, i64 1] 0), (8, i64 0), (9, .rop [i64 184, i64 1] 0), (10, .rop [i64 192, i64 1] 0), (11, i64 0)]) (H' := []) ⟨⟨_, rfl, rfl⟩, ⟨_, rfl, rfl⟩, ⟨_, rfl, rfl⟩, ⟨_, rfl, rfl⟩, ⟨_, rfl, rfl⟩, ⟨_, rfl, rfl⟩, ⟨_, rfl, rfl⟩, ⟨_, rfl, rfl⟩, ⟨_, rfl, rfl⟩, ⟨_, rfl, rfl⟩, ⟨_, rfl, rfl⟩, trivial⟩ trivial ?_
  refine W_seq rfl ?_
  refine W_reg rfl ?_
  refine Rv rfl rfl rfl (U_load3 rfl rfl rfl rfl rfl) rfl rfl ?_
  refine Rv rfl rfl rfl (U_call rfl rfl (v5_p) rfl) rfl rfl ?_
  refine Rv rfl rfl rfl (U_move rfl) rfl rfl ?_
  refine Rv rfl rfl rfl (U_extract rfl rfl) rfl rfl ?_
  refine Rv rfl rfl rfl (U_extract rfl rfl) rfl rfl ?_
  refine Rv rfl rfl rfl (U_extract rfl rfl) rfl rfl ?_
  refine Ra rfl rfl rfl (U_alloc) rfl rfl rfl ?_
  refine Ra rfl rfl rfl (U_alloc) rfl rfl rfl ?_
  refine Rn rfl rfl rfl (U_storeAll rfl rfl rfl rfl rfl rfl) rfl ?_
  refine Rn rfl rfl rfl (U_storeAll rfl rfl rfl rfl rfl rfl) rfl ?_
  refine Rv rfl rfl rfl (U_assign rfl) rfl rfl ?_
  refine Re rfl ?_
  refine thenQ_n ?_
  refine W_seq rfl ?_
  refine Wdraw rfl (by kernel_rfl) (by kernel_rfl) ?_
  refine Dv rfl rfl rfl (U_load3 rfl rfl rfl rfl rfl) rfl rfl ?_
  refine Dv rfl rfl rfl (U_call rfl rfl (motionM_p 104 0 8 5) rfl) rfl rfl ?_
  refine Dv rfl rfl rfl (U_call rfl rfl (v6_p) rfl) rfl rfl ?_
  refine Dv rfl rfl rfl (U_assign rfl) rfl rfl ?_
  refine Dr.nil rfl ?_
  refine thenQ_n ?_
  refine W_seq rfl ?_
  refine Wdraw rfl (by kernel_rfl) (by kernel_rfl) ?_
  refine Dv rfl rfl rfl (U_load3 rfl rfl rfl rfl rfl) rfl rfl ?_
  refine Dv rfl rfl rfl (U_build rfl rfl) rfl rfl ?_
  refine Dv rfl rfl rfl (U_build rfl rfl) rfl rfl ?_
  refine Dv rfl rfl rfl (U_call rfl rfl (v7_p) rfl) rfl rfl ?_
  refine Dv rfl rfl rfl (U_load3 rfl rfl rfl rfl rfl) rfl rfl ?_
  refine Dv rfl rfl rfl (U_build rfl rfl) rfl rfl ?_
  refine Dv rfl rfl rfl (U_build rfl rfl) rfl rfl ?_
  refine Dv rfl rfl rfl (U_call rfl rfl (v8_p) rfl) rfl rfl ?_
  refine Dv rfl rfl rfl (U_assign rfl) rfl rfl ?_
  refine Dv rfl rfl rfl (U_assign rfl) rfl rfl ?_
  refine Dr.nil rfl ?_
  refine thenQ_n ?_
  refine W_seq rfl ?_
  refine W_reg rfl ?_
  refine Rv rfl rfl rfl (U_load3 rfl rfl rfl rfl rfl) rfl rfl ?_
  refine Rv rfl rfl rfl (U_call rfl rfl (v9_p) rfl) rfl rfl ?_
  refine Rv rfl rfl rfl (U_move rfl) rfl rfl ?_
  refine Rv rfl rfl rfl (U_extract rfl rfl) rfl rfl ?_
  refine Rv rfl rfl rfl (U_extract rfl rfl) rfl rfl ?_
  refine Rv rfl rfl rfl (U_assign rfl) rfl rfl ?_
  refine Rv rfl rfl rfl (U_assign rfl) rfl rfl ?_
  refine Re rfl ?_
  refine thenQ_n ?_
  refine W_seq rfl ?_
  refine Wdraw rfl (by kernel_rfl) (by kernel_rfl) ?_
  refine Dv rfl rfl rfl (U_load3 rfl rfl rfl rfl rfl) rfl rfl ?_
  refine Dv rfl rfl rfl (U_buildSliceF (by rfl) (by decide) rfl rfl rfl) rfl rfl ?_
  refine Dv rfl rfl rfl (U_call rfl rfl (of_p [2] (some 1)) rfl) rfl rfl ?_
  refine Dv rfl rfl rfl (U_call rfl rfl (v10_p) rfl) rfl rfl ?_
  refine Dv rfl rfl rfl (U_assign rfl) rfl rfl ?_
  refine Dr.nil rfl ?_
  refine thenQ_n ?_
  refine W_seq rfl ?_
  refine W_reg rfl ?_
  refine Rv rfl rfl rfl (U_load3 rfl rfl rfl rfl rfl) rfl rfl ?_
  refine Rv rfl rfl rfl (U_call rfl rfl (v11_p) rfl) rfl rfl ?_
  refine Rv rfl rfl rfl (U_move rfl) rfl rfl ?_
  refine Rv rfl rfl rfl (U_extract rfl rfl) rfl rfl ?_
  refine Rv rfl rfl rfl (U_extract rfl rfl) rfl rfl ?_
  refine Rv rfl rfl rfl (U_assign rfl) rfl rfl ?_
  refine Rv rfl rfl rfl (U_assign rfl) rfl rfl ?_
  refine Re rfl ?_
  refine thenQ_n ?_
  refine W_seq rfl ?_
  refine Wdraw rfl (by kernel_rfl) (by kernel_rfl) ?_
  refine Dv rfl rfl rfl (U_move rfl) rfl rfl ?_
  refine Dv rfl rfl rfl (U_eql rfl rfl) rfl rfl ?_
  refine Dv rfl rfl rfl (U_move rfl) rfl rfl ?_
  refine Dv rfl rfl rfl (U_load2 rfl rfl rfl rfl) rfl rfl ?_
  refine Dv rfl rfl rfl (U_call rfl rfl (fracOf_p 8 5) rfl) rfl rfl ?_
  refine Dv rfl rfl rfl (U_eqlA (p := (8 : Int) = 8 ∧ (5 : Int) = 5) rfl rfl rfl rfl rfl rfl (by simp)) rfl rfl ?_
  refine Dv rfl rfl rfl (U_pick_t rfl rfl) rfl rfl ?_
  refine Dv rfl rfl rfl (U_move rfl) rfl rfl ?_
  refine Dv rfl rfl rfl (U_move rfl) rfl rfl ?_
  refine Dv rfl rfl rfl (U_eql rfl rfl) rfl rfl ?_
  refine Dv rfl rfl rfl (U_pick_t rfl rfl) rfl rfl ?_
  refine Dv rfl rfl rfl (U_move rfl) rfl rfl ?_
  refine Dv rfl rfl rfl (U_load2 rfl rfl rfl rfl) rfl rfl ?_
  refine Dv rfl rfl rfl (U_call rfl rfl (fracOf_p 9 5) rfl) rfl rfl ?_
  refine Dv rfl rfl rfl (U_eqlA (p := (9 : Int) = 9 ∧ (5 : Int) = 5) rfl rfl rfl rfl rfl rfl (by simp)) rfl rfl ?_
  refine Dv rfl rfl rfl (U_pick_t rfl rfl) rfl rfl ?_
  refine Dv rfl rfl rfl (U_move rfl) rfl rfl ?_
  refine Dv rfl rfl rfl (U_move rfl) rfl rfl ?_
  refine Dv rfl rfl rfl (U_eql rfl rfl) rfl rfl ?_
  refine Dv rfl rfl rfl (U_pick_t rfl rfl) rfl rfl ?_
  refine Dv rfl rfl rfl (U_move rfl) rfl rfl ?_
  refine Dv rfl rfl rfl (U_load2 rfl rfl rfl rfl) rfl rfl ?_
  refine Dv rfl rfl rfl (U_call rfl rfl (fracOf_p 10 1) rfl) rfl rfl ?_
  refine Dv rfl rfl rfl (U_eqlA (p := (10 : Int) = 10 ∧ (1 : Int) = 1) rfl rfl rfl rfl rfl rfl (by simp)) rfl rfl ?_
  refine Dv rfl rfl rfl (U_pick_t rfl rfl) rfl rfl ?_
  refine Dv rfl rfl rfl (U_move rfl) rfl rfl ?_
  refine Dv rfl rfl rfl (U_move rfl) rfl rfl ?_
  refine Dv rfl rfl rfl (U_eql rfl rfl) rfl rfl ?_
  refine Dv rfl rfl rfl (U_pick_t rfl rfl) rfl rfl ?_
  refine Dv rfl rfl rfl (U_move rfl) rfl rfl ?_
  refine Dv rfl rfl rfl (U_load2 rfl rfl rfl rfl) rfl rfl ?_
  refine Dv rfl rfl rfl (U_call rfl rfl (fracOf_p 184 1) rfl) rfl rfl ?_
  refine Dv rfl rfl rfl (U_eqlA (p := (184 : Int) = 184 ∧ (1 : Int) = 1) rfl rfl rfl rfl rfl rfl (by simp)) rfl rfl ?_
  refine Dv rfl rfl rfl (U_pick_t rfl rfl) rfl rfl ?_
  refine Dv rfl rfl rfl (U_move rfl) rfl rfl ?_
  refine Dv rfl rfl rfl (U_load2 rfl rfl rfl rfl) rfl rfl ?_
  refine Dv rfl rfl rfl (U_call rfl rfl (fracOf_p 192 1) rfl) rfl rfl ?_
  refine Dv rfl rfl rfl (U_eqlA (p := (192 : Int) = 192 ∧ (1 : Int) = 1) rfl rfl rfl rfl rfl rfl (by simp)) rfl rfl ?_
  refine Dv rfl rfl rfl (U_pick_t rfl rfl) rfl rfl ?_
  refine Dv rfl rfl rfl (U_move rfl) rfl rfl ?_
  refine Dv rfl rfl rfl (U_move rfl) rfl rfl ?_
  refine Dv rfl rfl rfl (U_eql rfl rfl) rfl rfl ?_
  refine Dv rfl rfl rfl (U_pick_t rfl rfl) rfl rfl ?_
  refine Dv rfl rfl rfl (U_move rfl) rfl rfl ?_
  refine Dv rfl rfl rfl (U_move rfl) rfl rfl ?_
  refine Dv rfl rfl rfl (U_eql rfl rfl) rfl rfl ?_
  refine Dv rfl rfl rfl (U_pick_t rfl rfl) rfl rfl ?_
  refine Dv rfl rfl rfl (U_move rfl) rfl rfl ?_
  refine Dv rfl rfl rfl (U_move rfl) rfl rfl ?_
  refine Dv rfl rfl rfl (U_eql rfl rfl) rfl rfl ?_
  refine Dv rfl rfl rfl (U_pick_t rfl rfl) rfl rfl ?_
  refine Dv rfl rfl rfl (U_move rfl) rfl rfl ?_
  refine Dv rfl rfl rfl (U_move rfl) rfl rfl ?_
  refine Dv rfl rfl rfl (U_eql rfl rfl) rfl rfl ?_
  refine Dv rfl rfl rfl (U_pick_t rfl rfl) rfl rfl ?_
  refine Dv rfl rfl rfl (U_move rfl) rfl rfl ?_
  refine Dv rfl rfl rfl (U_move rfl) rfl rfl ?_
  refine Dv rfl rfl rfl (U_eql rfl rfl) rfl rfl ?_
  refine Dv rfl rfl rfl (U_pick_t rfl rfl) rfl rfl ?_
  refine Dv rfl rfl rfl (U_move rfl) rfl rfl ?_
  refine Dv rfl rfl rfl (U_move rfl) rfl rfl ?_
  refine Dv rfl rfl rfl (U_eql rfl rfl) rfl rfl ?_
  refine Dv rfl rfl rfl (U_pick_t rfl rfl) rfl rfl ?_
  refine Dv rfl rfl rfl (U_move rfl) rfl rfl ?_
  refine Dv rfl rfl rfl (U_move rfl) rfl rfl ?_
  refine Dv rfl rfl rfl (U_eql rfl rfl) rfl rfl ?_
  refine Dv rfl rfl rfl (U_pick_t rfl rfl) rfl rfl ?_
  refine Dv rfl rfl rfl (U_move rfl) rfl rfl ?_
  refine Dv rfl rfl rfl (U_move rfl) rfl rfl ?_
  refine Dv rfl rfl rfl (U_eql rfl rfl) rfl rfl ?_
  refine Dv rfl rfl rfl (U_pick_t rfl rfl) rfl rfl ?_
  refine Dv rfl rfl rfl (U_move rfl) rfl rfl ?_
  refine Dv rfl rfl rfl (U_move rfl) rfl rfl ?_
  refine Dv rfl rfl rfl (U_eql rfl rfl) rfl rfl ?_
  refine Dv rfl rfl rfl (U_pick_t rfl rfl) rfl rfl ?_
  refine Dv rfl rfl rfl (U_move rfl) rfl rfl ?_
  refine Dv rfl rfl rfl (U_call rfl rfl (works_p) rfl) rfl rfl ?_
  refine Dv rfl rfl rfl (U_pick_t rfl rfl) rfl rfl ?_
  refine Dv rfl rfl rfl (U_assign rfl) rfl rfl ?_
  refine Dr.nil rfl ?_
  refine thenQ_n ?_
  refine W_ret rfl ?_
  exact retL (rlT rfl rl0) rfl rfl
end Go.Proofs.Ytapappdgdiaijaa
end
