import Derived.Test.YthmibifghihdaaaM4
set_option linter.all false
section
namespace Go.Proofs.Ythmibifghihdaaa
set_option maxRecDepth 20000
open Go.AE
theorem wO : Pure Try.prog 26 [bknA 4 ksB none] (.tup [natsA [0, 1, 2, 3] none, i64 0]) := by
  have := order_g 4 ksB none vB (by decide) acB
  rw [show ordG 4 ksB = [0, 1, 2, 3] by decide +kernel] at this
  exact this
theorem wRX : Pure Try.prog 63 [bknA 4 ksX none, .nils] (.tup [.nilp, i64 16]) := (ruledCY_p 4 ksX none vX (by decide) [] none (by simp) rfl (by simp) 1 cyX).weak (leL_cons (le_refl _) (leL_cons le_nils (leL_refl _)))
theorem wO2 : Pure Try.prog 26 [bknA 4 ksX none] (.tup [natsA [] none, i64 16]) := by
  have := order_e ⟨4, ksX.map cP⟩ none (by decide) 16 (by decide) (by have := wRX; rwa [← bk_eq] at this)
  exact this
theorem wC1 : Pure Try.prog 22 [bknA 4 ksB none, natsA [1, 3, 0, 2] (some 4)] (i64 0) := by
  have := checkOrder_n 4 ksB none vB (by decide) [1, 3, 0, 2] (some 4) (by decide) (by decide) rfl
  rw [show chkON ksB [1, 3, 0, 2] = 0 by decide +kernel] at this
  exact this
theorem wC2 : Pure Try.prog 22 [bknA 4 ksB none, natsA [2, 0, 1, 3] (some 4)] (i64 16) := by
  have := checkOrder_n 4 ksB none vB (by decide) [2, 0, 1, 3] (some 4) (by decide) (by decide) rfl
  rw [show chkON ksB [2, 0, 1, 3] = 16 by decide +kernel] at this
  exact this
theorem wC3 : Pure Try.prog 24 [bknA 4 ksX none, natsA [1, 2] (some 2)] (i64 0) := by
  have := checkCircle_n 4 ksX none vX (by decide) [1, 2] (some 2) (by decide) (by decide) (by decide)
  rw [show chkCN ksX [1, 2] = 0 by decide +kernel] at this
  exact this
theorem wC4 : Pure Try.prog 24 [bknA 4 ksB none, natsA [1, 2] (some 2)] (i64 14) := by
  have := checkCircle_n 4 ksB none vB (by decide) [1, 2] (some 2) (by decide) (by decide) (by decide)
  rw [show chkCN ksB [1, 2] = 14 by decide +kernel] at this
  exact this
theorem wC5 : Pure Try.prog 30 [bknA 4 ksX none] (.tup [natsA [1, 2] none, i64 0]) := by
  have := circleP_y 4 ksX none vX (by decide) 1 cyX
  rw [show cirG 4 ksX 1 = [1, 2] by decide +kernel] at this
  exact this
theorem wC6 : Pure Try.prog 30 [bknA 4 ksB none] (.tup [natsA [] none, i64 5]) := by
  have := circleP_a 4 ksB none vB (by decide) acB
  exact this
theorem wN : Pure Try.prog 28 [bknA 4 ksB none] (.tup [i64 5, i64 0]) := by
  have := countP_a 4 ksB none vB (by decide) acB
  rw [show up 4 (nxB (briQ 4 ksB)) (full 4) = 5 by decide +kernel] at this
  exact this
theorem wK1 : Pure Try.prog 33 [bknA 4 ksB none, i64 1, i64 2] (.tup [i64 2, i64 0]) := by
  have := kind_g 4 ksB none vB (by decide) acB 1 2 (by decide) (by decide) (by decide)
  rw [show kndQ (faQ 4 ksB) 1 2 = 2 by decide +kernel] at this
  exact this
theorem wRB : Pure Try.prog 63 [bknA 4 ksB none, intsA [1, 1] (some 2)] (.tup [.nilp, i64 2]) := ruledB_p 4 ksB none vB (by decide) 1 1 (some 2) (by decide) rfl
theorem wK2 : Pure Try.prog 33 [bknA 4 ksB none, i64 1, i64 1] (.tup [i64 0, i64 2]) := by
  have := kind_e ⟨4, ksB.map cP⟩ none (by decide) 1 1 2 (by decide) (by have := wRB; rwa [← bk_eq] at this)
  exact this
theorem wS : Pure Try.prog 37 [bknA 4 ksB none, i64 0] (.tup [.agg [i64 0, i64 2], i64 0]) := by
  have := span_g 4 ksB none vB (by decide) acB 0 (by decide)
  rw [show sloK (faQ 4 ksB) 0 4 = 0 by decide +kernel] at this
  rw [show shiK (faQ 4 ksB) 0 4 = 1 by decide +kernel] at this
  exact this
theorem wR : Pure Try.prog 39 [bknA 4 ksB none, i64 3] (.tup [natsA [0, 1, 2, 2] none, i64 0]) := by
  have := ranks_g 4 ksB none vB (by decide) acB 3 (by decide)
  rw [show rnkQ 4 (nxB (briQ 4 ksB)) 3 = [0, 1, 2, 2] by decide +kernel] at this
  exact this
theorem acB2 : Acy 4 (ksB ++ [(0, 1)]) := by
  intro j hj
  have : ((List.range 4).all fun j => !bt ((faQ 4 (ksB ++ [(0, 1)])).g j) j) = true := by decide +kernel
  simpa using List.all_eq_true.1 this j (List.mem_range.2 hj)
theorem wP : Pure Try.prog 35 [bknA 4 ksB none, i64 0, i64 1] (.tup [.agg [i64 2, i64 5], i64 0]) := by
  have := chance_gA 4 ksB none vB (by decide) acB 0 1 (by decide) (by decide) (by decide) (cnt_acy vB acB) acB2
  rw [show cntQ 4 (ksB ++ [(0, 1)]) = 2 by decide +kernel] at this
  rw [show cntQ 4 ksB = 5 by decide +kernel] at this
  rw [show frN 2 5 = 2 by decide +kernel] at this
  rw [show frD 2 5 = 5 by decide +kernel] at this
  exact this
theorem wD : Pure Try.prog 42 [bknA 4 ksB none] (.tup [i64 3, i64 0]) := by
  have := depth_g 4 ksB none vB (by decide) acB (by decide)
  rw [show depQ 4 ksB = 3 by decide +kernel] at this
  exact this
theorem wNx : Pure Try.prog 44 [bknA 4 ksB none] (.tup [i64 0, i64 1, i64 0]) := by
  have := next_g 4 ksB none vB (by decide) acB (by decide)
  rw [show (prQ 4).find? (gudP (dpQ 4) (ords 4 ksB)) = some (0, 1) by decide +kernel] at this
  exact this
theorem v5 : VB 5 [] := ⟨by decide, by decide, by decide, by simp⟩
theorem ac5 : Acy 5 [] := by
  intro j hj
  have : ((List.range 5).all fun j => !bt ((faQ 5 []).g j) j) = true := by decide +kernel
  simpa using List.all_eq_true.1 this j (List.mem_range.2 hj)
theorem wD5 : Pure Try.prog 42 [.agg [i64 5, .nils]] (.tup [i64 0, i64 4]) := (depth_o 5 [] none v5 (by decide) ac5 (by decide)).weak (leL_cons (le_agg (leL_cons (le_refl _) (leL_cons le_nils (leL_refl _)))) (leL_refl _))
theorem wCR : Pure Try.prog 25 [bknA 4 ksX none, natsA [1, 2] none] (i64 0) := by
  have := checkCircleR_n 4 ksX none vX (by decide) [1, 2] none (by decide) (by decide) (by decide)
  rw [show chkCN ksX [1, 2] = 0 by decide +kernel] at this
  exact this
theorem works_p  : Pure Try.prog 19 [] (.bool true) := by
  refine pure_of_body Try.func19 (c := body Try.f19) rfl (by simp [Try.ntmps19]) fun w0 Φ0 => ?_
  refine W_seq rfl ?_
  refine W_reg rfl ?_
  refine Rv rfl rfl rfl (U_assign rfl) rfl rfl ?_
  refine Re rfl ?_
  refine thenQ_n ?_
  refine W_seq rfl ?_
  refine W_reg rfl ?_
  refine Rv rfl rfl rfl (U_call rfl rfl (book_p) rfl) rfl rfl ?_
  refine Rv rfl rfl rfl (U_build rfl rfl) rfl rfl ?_
  refine Rv rfl rfl rfl (U_buildSliceF (by rfl) (by decide) rfl rfl rfl) rfl rfl ?_
  refine Rv rfl rfl rfl (U_call rfl rfl (bookX_p) rfl) rfl rfl ?_
  refine Ra rfl rfl rfl (U_alloc) rfl rfl rfl ?_
  refine Ra rfl rfl rfl (U_alloc) rfl rfl rfl ?_
  refine Rn rfl rfl rfl (U_storeAll rfl rfl rfl rfl rfl rfl) rfl ?_
  refine Rn rfl rfl rfl (U_storeAll rfl rfl rfl rfl rfl rfl) rfl ?_
  refine Re rfl ?_
  refine thenQ_n ?_
  refine WfrN 0 rfl rfl (T' := [(1, .rop [i64 ((4 : Nat) : Int), .ros (ksB.flatMap lkN) ksB.length none] 0), (2, .ptr 1 0)]) (H' := [(1, some (.cells [i64 ((4 : Nat) : Int), .ros (ksX.flatMap lkN) ksX.length none] 24))]) ⟨⟨_, rfl, rfl⟩, ⟨_, rfl, rfl⟩, trivial⟩ ⟨⟨rfl, rF rfl rfl⟩, trivial⟩ ?_
  refine WfrN 1 rfl rfl (T' := [(1, .rop [i64 ((4 : Nat) : Int), .ros (ksB.flatMap lkN) ksB.length none] 0), (2, .rop [i64 ((4 : Nat) : Int), .ros (ksX.flatMap lkN) ksX.length none] 0)]) (H' := []) ⟨⟨_, rfl, rfl⟩, ⟨_, rfl, rfl⟩, trivial⟩ trivial ?_
  refine W_seq rfl ?_
  refine W_reg rfl ?_
  refine Rv rfl rfl rfl (U_load2 rfl rfl rfl rfl) rfl rfl ?_
  refine Rv rfl rfl rfl (U_call rfl rfl (wO) rfl) rfl rfl ?_
  refine Rv rfl rfl rfl (U_move rfl) rfl rfl ?_
  refine Rv rfl rfl rfl (U_extract rfl rfl) rfl rfl ?_
  refine Rv rfl rfl rfl (U_extract rfl rfl) rfl rfl ?_
  refine Rv rfl rfl rfl (U_assign rfl) rfl rfl ?_
  refine Rv rfl rfl rfl (U_assign rfl) rfl rfl ?_
  refine Re rfl ?_
  refine thenQ_n ?_
  refine W_seq rfl ?_
  refine W_reg rfl ?_
  refine Rv rfl rfl rfl (U_load2 rfl rfl rfl rfl) rfl rfl ?_
  refine Rv rfl rfl rfl (U_call rfl rfl (wO2) rfl) rfl rfl ?_
  refine Rv rfl rfl rfl (U_move rfl) rfl rfl ?_
  refine Rv rfl rfl rfl (U_extract rfl rfl) rfl rfl ?_
  refine Rv rfl rfl rfl (U_extract rfl rfl) rfl rfl ?_
  refine Rv rfl rfl rfl (U_assign rfl) rfl rfl ?_
  refine Rv rfl rfl rfl (U_assign rfl) rfl rfl ?_
  refine Re rfl ?_
  refine thenQ_n ?_
  refine W_seq rfl ?_
  refine Wdraw rfl (by kernel_rfl) (by kernel_rfl) ?_
  refine Dv rfl rfl rfl (U_load2 rfl rfl rfl rfl) rfl rfl ?_
  refine Dv rfl rfl rfl (U_buildSliceF (by rfl) (by decide) rfl rfl rfl) rfl rfl ?_
  refine Dv rfl rfl rfl (U_call rfl rfl (of_p [1, 3, 0, 2] (some 4)) rfl) rfl rfl ?_
  refine Dv rfl rfl rfl (U_call rfl rfl (wC1) rfl) rfl rfl ?_
  refine Dv rfl rfl rfl (U_load2 rfl rfl rfl rfl) rfl rfl ?_
  refine Dv rfl rfl rfl (U_buildSliceF (by rfl) (by decide) rfl rfl rfl) rfl rfl ?_
  refine Dv rfl rfl rfl (U_call rfl rfl (of_p [2, 0, 1, 3] (some 4)) rfl) rfl rfl ?_
  refine Dv rfl rfl rfl (U_call rfl rfl (wC2) rfl) rfl rfl ?_
  refine Dv rfl rfl rfl (U_assign rfl) rfl rfl ?_
  refine Dv rfl rfl rfl (U_assign rfl) rfl rfl ?_
  refine Dr.nil rfl ?_
  refine thenQ_n ?_
  refine W_seq rfl ?_
  refine Wdraw rfl (by kernel_rfl) (by kernel_rfl) ?_
  refine Dv rfl rfl rfl (U_load2 rfl rfl rfl rfl) rfl rfl ?_
  refine Dv rfl rfl rfl (U_buildSliceF (by rfl) (by decide) rfl rfl rfl) rfl rfl ?_
  refine Dv rfl rfl rfl (U_call rfl rfl (of_p [1, 2] (some 2)) rfl) rfl rfl ?_
  refine Dv rfl rfl rfl (U_call rfl rfl (wC3) rfl) rfl rfl ?_
  refine Dv rfl rfl rfl (U_load2 rfl rfl rfl rfl) rfl rfl ?_
  refine Dv rfl rfl rfl (U_buildSliceF (by rfl) (by decide) rfl rfl rfl) rfl rfl ?_
  refine Dv rfl rfl rfl (U_call rfl rfl (of_p [1, 2] (some 2)) rfl) rfl rfl ?_
  refine Dv rfl rfl rfl (U_call rfl rfl (wC4) rfl) rfl rfl ?_
  refine Dv rfl rfl rfl (U_assign rfl) rfl rfl ?_
  refine Dv rfl rfl rfl (U_assign rfl) rfl rfl ?_
  refine Dr.nil rfl ?_
  refine thenQ_n ?_
  refine W_seq rfl ?_
  refine W_reg rfl ?_
  refine Rv rfl rfl rfl (U_load2 rfl rfl rfl rfl) rfl rfl ?_
  refine Rv rfl rfl rfl (U_call rfl rfl (wC5) rfl) rfl rfl ?_
  refine Rv rfl rfl rfl (U_move rfl) rfl rfl ?_
  refine Rv rfl rfl rfl (U_extract rfl rfl) rfl rfl ?_
  refine Rv rfl rfl rfl (U_extract rfl rfl) rfl rfl ?_
  refine Rv rfl rfl rfl (U_assign rfl) rfl rfl ?_
  refine Rv rfl rfl rfl (U_assign rfl) rfl rfl ?_
  refine Re rfl ?_
  refine thenQ_n ?_
  refine W_seq rfl ?_
  refine W_reg rfl ?_
  refine Rv rfl rfl rfl (U_load2 rfl rfl rfl rfl) rfl rfl ?_
  refine Rv rfl rfl rfl (U_call rfl rfl (wC6) rfl) rfl rfl ?_
  refine Rv rfl rfl rfl (U_move rfl) rfl rfl ?_
  refine Rv rfl rfl rfl (U_extract rfl rfl) rfl rfl ?_
  refine Rv rfl rfl rfl (U_extract rfl rfl) rfl rfl ?_
  refine Rv rfl rfl rfl (U_assign rfl) rfl rfl ?_
  refine Rv rfl rfl rfl (U_assign rfl) rfl rfl ?_
  refine Re rfl ?_
  refine thenQ_n ?_
  refine W_seq rfl ?_
  refine W_reg rfl ?_
  refine Rv rfl rfl rfl (U_load2 rfl rfl rfl rfl) rfl rfl ?_
  refine Rv rfl rfl rfl (U_call rfl rfl (wN) rfl) rfl rfl ?_
  refine Rv rfl rfl rfl (U_move rfl) rfl rfl ?_
  refine Rv rfl rfl rfl (U_extract rfl rfl) rfl rfl ?_
  refine Rv rfl rfl rfl (U_extract rfl rfl) rfl rfl ?_
  refine Rv rfl rfl rfl (U_assign rfl) rfl rfl ?_
  refine Rv rfl rfl rfl (U_assign rfl) rfl rfl ?_
  refine Re rfl ?_
  refine thenQ_n ?_
  refine W_seq rfl ?_
  refine W_reg rfl ?_
  refine Rv rfl rfl rfl (U_load2 rfl rfl rfl rfl) rfl rfl ?_
  refine Rv rfl rfl rfl (U_call rfl rfl (wK1) rfl) rfl rfl ?_
  refine Rv rfl rfl rfl (U_move rfl) rfl rfl ?_
  refine Rv rfl rfl rfl (U_extract rfl rfl) rfl rfl ?_
  refine Rv rfl rfl rfl (U_extract rfl rfl) rfl rfl ?_
  refine Rv rfl rfl rfl (U_assign rfl) rfl rfl ?_
  refine Rv rfl rfl rfl (U_assign rfl) rfl rfl ?_
  refine Re rfl ?_
  refine thenQ_n ?_
  refine W_seq rfl ?_
  refine W_reg rfl ?_
  refine Rv rfl rfl rfl (U_load2 rfl rfl rfl rfl) rfl rfl ?_
  refine Rv rfl rfl rfl (U_call rfl rfl (wK2) rfl) rfl rfl ?_
  refine Rv rfl rfl rfl (U_move rfl) rfl rfl ?_
  refine Rv rfl rfl rfl (U_extract rfl rfl) rfl rfl ?_
  refine Rv rfl rfl rfl (U_extract rfl rfl) rfl rfl ?_
  refine Rv rfl rfl rfl (U_assign rfl) rfl rfl ?_
  refine Rv rfl rfl rfl (U_assign rfl) rfl rfl ?_
  refine Re rfl ?_
  refine thenQ_n ?_
  refine W_seq rfl ?_
  refine W_reg rfl ?_
  refine Rv rfl rfl rfl (U_load2 rfl rfl rfl rfl) rfl rfl ?_
  refine Rv rfl rfl rfl (U_call rfl rfl (wS) rfl) rfl rfl ?_
  refine Rv rfl rfl rfl (U_move rfl) rfl rfl ?_
  refine Rv rfl rfl rfl (U_extract rfl rfl) rfl rfl ?_
  refine Rv rfl rfl rfl (U_extract rfl rfl) rfl rfl ?_
  refine Ra rfl rfl rfl (U_alloc) rfl rfl rfl ?_
  refine Rn rfl rfl rfl (U_storeAll rfl rfl rfl rfl rfl rfl) rfl ?_
  refine Rv rfl rfl rfl (U_assign rfl) rfl rfl ?_
  refine Re rfl ?_
  refine thenQ_n ?_
  refine WfrN 2 rfl rfl (T' := [(1, .rop [i64 ((4 : Nat) : Int), .ros (ksB.flatMap lkN) ksB.length none] 0), (2, .rop [i64 ((4 : Nat) : Int), .ros (ksX.flatMap lkN) ksX.length none] 0), (3, .ros ([0, 1, 2, 3].map n64) ([0, 1, 2, 3].length) none), (4, i64 0), (6, i64 16), (7, i64 0), (8, i64 16), (9, i64 0), (10, i64 14), (11, .ros ([1, 2].map n64) ([1, 2].length) none), (12, i64 0), (14, i64 5), (15, i64 5), (16, i64 0), (17, i64 2), (18, i64 0), (20, i64 2), (21, .rop [i64 0, i64 2] 0), (22, i64 0)]) (H' := []) ⟨⟨_, rfl, rfl⟩, ⟨_, rfl, rfl⟩, ⟨_, rfl, rfl⟩, ⟨_, rfl, rfl⟩, ⟨_, rfl, rfl⟩, ⟨_, rfl, rfl⟩, ⟨_, rfl, rfl⟩, ⟨_, rfl, rfl⟩, ⟨_, rfl, rfl⟩, ⟨_, rfl, rfl⟩, ⟨_, rfl, rfl⟩, ⟨_, rfl, rfl⟩, ⟨_, rfl, rfl⟩, ⟨_, rfl, rfl⟩, ⟨_, rfl, rfl⟩, ⟨_, rfl, rfl⟩, ⟨_, rfl, rfl⟩, ⟨_, rfl, rfl⟩, ⟨_, rfl, rfl⟩, trivial⟩ trivial ?_
  refine W_seq rfl ?_
  refine W_reg rfl ?_
  refine Rv rfl rfl rfl (U_load2 rfl rfl rfl rfl) rfl rfl ?_
  refine Rv rfl rfl rfl (U_call rfl rfl (wR) rfl) rfl rfl ?_
  refine Rv rfl rfl rfl (U_move rfl) rfl rfl ?_
  refine Rv rfl rfl rfl (U_extract rfl rfl) rfl rfl ?_
  refine Rv rfl rfl rfl (U_extract rfl rfl) rfl rfl ?_
  refine Rv rfl rfl rfl (U_assign rfl) rfl rfl ?_
  refine Rv rfl rfl rfl (U_assign rfl) rfl rfl ?_
  refine Re rfl ?_
  refine thenQ_n ?_
  refine W_seq rfl ?_
  refine W_reg rfl ?_
  refine Rv rfl rfl rfl (U_load2 rfl rfl rfl rfl) rfl rfl ?_
  refine Rv rfl rfl rfl (U_call rfl rfl (wP) rfl) rfl rfl ?_
  refine Rv rfl rfl rfl (U_move rfl) rfl rfl ?_
  refine Rv rfl rfl rfl (U_extract rfl rfl) rfl rfl ?_
  refine Rv rfl rfl rfl (U_extract rfl rfl) rfl rfl ?_
  refine Ra rfl rfl rfl (U_alloc) rfl rfl rfl ?_
  refine Rn rfl rfl rfl (U_storeAll rfl rfl rfl rfl rfl rfl) rfl ?_
  refine Rv rfl rfl rfl (U_assign rfl) rfl rfl ?_
  refine Re rfl ?_
  refine thenQ_n ?_
  refine WfrN 3 rfl rfl (T' := [(1, .rop [i64 ((4 : Nat) : Int), .ros (ksB.flatMap lkN) ksB.length none] 0), (2, .rop [i64 ((4 : Nat) : Int), .ros (ksX.flatMap lkN) ksX.length none] 0), (3, .ros ([0, 1, 2, 3].map n64) ([0, 1, 2, 3].length) none), (4, i64 0), (6, i64 16), (7, i64 0), (8, i64 16), (9, i64 0), (10, i64 14), (11, .ros ([1, 2].map n64) ([1, 2].length) none), (12, i64 0), (14, i64 5), (15, i64 5), (16, i64 0), (17, i64 2), (18, i64 0), (20, i64 2), (21, .rop [i64 0, i64 2] 0), (22, i64 0), (23, .ros ([0, 1, 2, 2].map n64) ([0, 1, 2, 2].length) none), (24, i64 0), (25, .rop [i64 2, i64 5] 0), (26, i64 0)]) (H' := []) ⟨⟨_, rfl, rfl⟩, ⟨_, rfl, rfl⟩, ⟨_, rfl, rfl⟩, ⟨_, rfl, rfl⟩, ⟨_, rfl, rfl⟩, ⟨_, rfl, rfl⟩, ⟨_, rfl, rfl⟩, ⟨_, rfl, rfl⟩, ⟨_, rfl, rfl⟩, ⟨_, rfl, rfl⟩, ⟨_, rfl, rfl⟩, ⟨_, rfl, rfl⟩, ⟨_, rfl, rfl⟩, ⟨_, rfl, rfl⟩, ⟨_, rfl, rfl⟩, ⟨_, rfl, rfl⟩, ⟨_, rfl, rfl⟩, ⟨_, rfl, rfl⟩, ⟨_, rfl, rfl⟩, ⟨_, rfl, rfl⟩, ⟨_, rfl, rfl⟩, ⟨_, rfl, rfl⟩, ⟨_, rfl, rfl⟩, trivial⟩ trivial ?_
  refine W_seq rfl ?_
  refine W_reg rfl ?_
  refine Rv rfl rfl rfl (U_load2 rfl rfl rfl rfl) rfl rfl ?_
  refine Rv rfl rfl rfl (U_call rfl rfl (wD) rfl) rfl rfl ?_
  refine Rv rfl rfl rfl (U_move rfl) rfl rfl ?_
  refine Rv rfl rfl rfl (U_extract rfl rfl) rfl rfl ?_
  refine Rv rfl rfl rfl (U_extract rfl rfl) rfl rfl ?_
  refine Rv rfl rfl rfl (U_assign rfl) rfl rfl ?_
  refine Rv rfl rfl rfl (U_assign rfl) rfl rfl ?_
  refine Re rfl ?_
  refine thenQ_n ?_
  refine W_seq rfl ?_
  refine W_reg rfl ?_
  refine Rv rfl rfl rfl (U_load2 rfl rfl rfl rfl) rfl rfl ?_
  refine Rv rfl rfl rfl (U_call rfl rfl (wNx) rfl) rfl rfl ?_
  refine Rv rfl rfl rfl (U_move rfl) rfl rfl ?_
  refine Rv rfl rfl rfl (U_extract rfl rfl) rfl rfl ?_
  refine Rv rfl rfl rfl (U_extract rfl rfl) rfl rfl ?_
  refine Rv rfl rfl rfl (U_extract rfl rfl) rfl rfl ?_
  refine Rv rfl rfl rfl (U_assign rfl) rfl rfl ?_
  refine Rv rfl rfl rfl (U_assign rfl) rfl rfl ?_
  refine Rv rfl rfl rfl (U_assign rfl) rfl rfl ?_
  refine Re rfl ?_
  refine thenQ_n ?_
  refine W_seq rfl ?_
  refine W_reg rfl ?_
  refine Rv rfl rfl rfl (U_build rfl rfl) rfl rfl ?_
  refine Rv rfl rfl rfl (U_call rfl rfl (wD5) rfl) rfl rfl ?_
  refine Rv rfl rfl rfl (U_move rfl) rfl rfl ?_
  refine Rv rfl rfl rfl (U_extract rfl rfl) rfl rfl ?_
  refine Rv rfl rfl rfl (U_extract rfl rfl) rfl rfl ?_
  refine Rv rfl rfl rfl (U_assign rfl) rfl rfl ?_
  refine Rv rfl rfl rfl (U_assign rfl) rfl rfl ?_
  refine Re rfl ?_
  refine thenQ_n ?_
  refine W_seq rfl ?_
  refine W_seq rfl ?_
  refine W_reg rfl ?_
  refine Rv rfl rfl rfl (U_move rfl) rfl rfl ?_
  refine Rv rfl rfl rfl (U_neq rfl rfl) rfl rfl ?_
  refine Rv rfl rfl rfl (U_move rfl) rfl rfl ?_
  refine Rv rfl rfl rfl (U_move rfl) rfl rfl ?_
  refine Rv rfl rfl rfl (U_neq rfl rfl) rfl rfl ?_
  refine Rv rfl rfl rfl (U_pick_f rfl rfl) rfl rfl ?_
  refine Rv rfl rfl rfl (U_move rfl) rfl rfl ?_
  refine Rv rfl rfl rfl (U_move rfl) rfl rfl ?_
  refine Rv rfl rfl rfl (U_neq rfl rfl) rfl rfl ?_
  refine Rv rfl rfl rfl (U_pick_f rfl rfl) rfl rfl ?_
  refine Rv rfl rfl rfl (U_move rfl) rfl rfl ?_
  refine Rv rfl rfl rfl (U_move rfl) rfl rfl ?_
  refine Rv rfl rfl rfl (U_neq rfl rfl) rfl rfl ?_
  refine Rv rfl rfl rfl (U_pick_f rfl rfl) rfl rfl ?_
  refine Rv rfl rfl rfl (U_move rfl) rfl rfl ?_
  refine Rv rfl rfl rfl (U_move rfl) rfl rfl ?_
  refine Rv rfl rfl rfl (U_neq rfl rfl) rfl rfl ?_
  refine Rv rfl rfl rfl (U_pick_f rfl rfl) rfl rfl ?_
  refine Rv rfl rfl rfl (U_move rfl) rfl rfl ?_
  refine Rv rfl rfl rfl (U_move rfl) rfl rfl ?_
  refine Rv rfl rfl rfl (U_neq rfl rfl) rfl rfl ?_
  refine Rv rfl rfl rfl (U_pick_f rfl rfl) rfl rfl ?_
  refine Rv rfl rfl rfl (U_move rfl) rfl rfl ?_
  refine Rv rfl rfl rfl (U_move rfl) rfl rfl ?_
  refine Rv rfl rfl rfl (U_neq rfl rfl) rfl rfl ?_
  refine Rv rfl rfl rfl (U_pick_f rfl rfl) rfl rfl ?_
  refine Rv rfl rfl rfl (U_move rfl) rfl rfl ?_
  refine Rv rfl rfl rfl (U_move rfl) rfl rfl ?_
  refine Rv rfl rfl rfl (U_neq rfl rfl) rfl rfl ?_
  refine Rv rfl rfl rfl (U_pick_f rfl rfl) rfl rfl ?_
  refine Rv rfl rfl rfl (U_move rfl) rfl rfl ?_
  refine Rv rfl rfl rfl (U_move rfl) rfl rfl ?_
  refine Rv rfl rfl rfl (U_neq rfl rfl) rfl rfl ?_
  refine Rv rfl rfl rfl (U_pick_f rfl rfl) rfl rfl ?_
  refine Rv rfl rfl rfl (U_move rfl) rfl rfl ?_
  refine Rv rfl rfl rfl (U_move rfl) rfl rfl ?_
  refine Rv rfl rfl rfl (U_neq rfl rfl) rfl rfl ?_
  refine Rv rfl rfl rfl (U_pick_f rfl rfl) rfl rfl ?_
  refine Rv rfl rfl rfl (U_move rfl) rfl rfl ?_
  refine Rv rfl rfl rfl (U_move rfl) rfl rfl ?_
  refine Rv rfl rfl rfl (U_neq rfl rfl) rfl rfl ?_
  refine Rv rfl rfl rfl (U_pick_f rfl rfl) rfl rfl ?_
  refine Rv rfl rfl rfl (U_move rfl) rfl rfl ?_
  refine Rv rfl rfl rfl (U_move rfl) rfl rfl ?_
  refine Rv rfl rfl rfl (U_neq rfl rfl) rfl rfl ?_
  refine Rv rfl rfl rfl (U_pick_f rfl rfl) rfl rfl ?_
  refine Rv rfl rfl rfl (U_move rfl) rfl rfl ?_
  refine Rv rfl rfl rfl (U_move rfl) rfl rfl ?_
  refine Rv rfl rfl rfl (U_neq rfl rfl) rfl rfl ?_
  refine Rv rfl rfl rfl (U_pick_f rfl rfl) rfl rfl ?_
  refine Rv rfl rfl rfl (U_move rfl) rfl rfl ?_
  refine Rv rfl rfl rfl (U_move rfl) rfl rfl ?_
  refine Rv rfl rfl rfl (U_neq rfl rfl) rfl rfl ?_
  refine Rv rfl rfl rfl (U_pick_f rfl rfl) rfl rfl ?_
  refine Rv rfl rfl rfl (U_move rfl) rfl rfl ?_
  refine Rv rfl rfl rfl (U_move rfl) rfl rfl ?_
  refine Rv rfl rfl rfl (U_neq rfl rfl) rfl rfl ?_
  refine Rv rfl rfl rfl (U_pick_f rfl rfl) rfl rfl ?_
  refine Rv rfl rfl rfl (U_move rfl) rfl rfl ?_
  refine Rv rfl rfl rfl (U_move rfl) rfl rfl ?_
  refine Rv rfl rfl rfl (U_neq rfl rfl) rfl rfl ?_
  refine Rv rfl rfl rfl (U_pick_f rfl rfl) rfl rfl ?_
  refine Rv rfl rfl rfl (U_move rfl) rfl rfl ?_
  refine Rv rfl rfl rfl (U_move rfl) rfl rfl ?_
  refine Rv rfl rfl rfl (U_neq rfl rfl) rfl rfl ?_
  refine Rv rfl rfl rfl (U_pick_f rfl rfl) rfl rfl ?_
  refine Re rfl ?_
  refine thenQ_n ?_
  refine WcondP rfl rfl (fun h => absurd h (by decide)) (fun _ => ?_)
  refine W_skip rfl ?_
  refine thenQ_n ?_
  refine W_seq rfl ?_
  refine Wdraw rfl (by kernel_rfl) (by kernel_rfl) ?_
  refine Dv rfl rfl rfl (U_move rfl) rfl rfl ?_
  refine Dv rfl rfl rfl (U_buildSliceF (by rfl) (by decide) rfl rfl rfl) rfl rfl ?_
  refine Dv rfl rfl rfl (U_call rfl rfl (of_p [0, 1, 2, 3] (some 4)) rfl) rfl rfl ?_
  refine Dv rfl rfl rfl (U_call rfl rfl (intsS_p [0, 1, 2, 3] none (some 4) (by decide)) rfl) rfl rfl ?_
  refine Dv rfl rfl rfl (U_move rfl) rfl rfl ?_
  refine Dv rfl rfl rfl (U_load2 rfl rfl rfl rfl) rfl rfl ?_
  refine Dv rfl rfl rfl (U_move rfl) rfl rfl ?_
  refine Dv rfl rfl rfl (U_call rfl rfl (wCR) rfl) rfl rfl ?_
  refine Dv rfl rfl rfl (U_eql rfl rfl) rfl rfl ?_
  refine Dv rfl rfl rfl (U_pick_t rfl rfl) rfl rfl ?_
  refine Dv rfl rfl rfl (U_move rfl) rfl rfl ?_
  refine Dv rfl rfl rfl (U_move rfl) rfl rfl ?_
  refine Dv rfl rfl rfl (U_eql rfl rfl) rfl rfl ?_
  refine Dv rfl rfl rfl (U_pick_t rfl rfl) rfl rfl ?_
  refine Dv rfl rfl rfl (U_move rfl) rfl rfl ?_
  refine Dv rfl rfl rfl (U_move rfl) rfl rfl ?_
  refine Dv rfl rfl rfl (U_eql rfl rfl) rfl rfl ?_
  refine Dv rfl rfl rfl (U_pick_t rfl rfl) rfl rfl ?_
  refine Dv rfl rfl rfl (U_move rfl) rfl rfl ?_
  refine Dv rfl rfl rfl (U_load2 rfl rfl rfl rfl) rfl rfl ?_
  refine Dv rfl rfl rfl (U_call rfl rfl (rg_p 0 2) rfl) rfl rfl ?_
  refine Dv rfl rfl rfl (U_eqlA (p := (0 : Int) = 0 ∧ (2 : Int) = 2) rfl rfl rfl rfl rfl rfl (by simp)) rfl rfl ?_
  refine Dv rfl rfl rfl (U_pick_t rfl rfl) rfl rfl ?_
  refine Dv rfl rfl rfl (U_move rfl) rfl rfl ?_
  refine Dv rfl rfl rfl (U_move rfl) rfl rfl ?_
  refine Dv rfl rfl rfl (U_buildSliceF (by rfl) (by decide) rfl rfl rfl) rfl rfl ?_
  refine Dv rfl rfl rfl (U_call rfl rfl (longs_of [0, 1, 2, 2] (some 4)) rfl) rfl rfl ?_
  refine Dv rfl rfl rfl (U_call rfl rfl (longsS_p [0, 1, 2, 2] none (some 4) (by decide)) rfl) rfl rfl ?_
  refine Dv rfl rfl rfl (U_pick_t rfl rfl) rfl rfl ?_
  refine Dv rfl rfl rfl (U_move rfl) rfl rfl ?_
  refine Dv rfl rfl rfl (U_load2 rfl rfl rfl rfl) rfl rfl ?_
  refine Dv rfl rfl rfl (U_call rfl rfl (by_p 2 5) rfl) rfl rfl ?_
  refine Dv rfl rfl rfl (U_eqlA (p := (2 : Int) = 2 ∧ (5 : Int) = 5) rfl rfl rfl rfl rfl rfl (by simp)) rfl rfl ?_
  refine Dv rfl rfl rfl (U_pick_t rfl rfl) rfl rfl ?_
  refine Dv rfl rfl rfl (U_move rfl) rfl rfl ?_
  refine Dv rfl rfl rfl (U_move rfl) rfl rfl ?_
  refine Dv rfl rfl rfl (U_eql rfl rfl) rfl rfl ?_
  refine Dv rfl rfl rfl (U_pick_t rfl rfl) rfl rfl ?_
  refine Dv rfl rfl rfl (U_move rfl) rfl rfl ?_
  refine Dv rfl rfl rfl (U_move rfl) rfl rfl ?_
  refine Dv rfl rfl rfl (U_eql rfl rfl) rfl rfl ?_
  refine Dv rfl rfl rfl (U_pick_t rfl rfl) rfl rfl ?_
  refine Dv rfl rfl rfl (U_move rfl) rfl rfl ?_
  refine Dv rfl rfl rfl (U_move rfl) rfl rfl ?_
  refine Dv rfl rfl rfl (U_eql rfl rfl) rfl rfl ?_
  refine Dv rfl rfl rfl (U_pick_t rfl rfl) rfl rfl ?_
  refine Dv rfl rfl rfl (U_assign rfl) rfl rfl ?_
  refine Dr.nil rfl ?_
  refine thenQ_n ?_
  refine W_ret rfl ?_
  exact retL (rlT rfl rl0) (by first | rfl | (simp only [packA]; rfl; first | done | rfl)) rfl
end Go.Proofs.Ythmibifghihdaaa
end
