import Derived.Test.YthlolelbmhfdbaaM5
set_option linter.all false
section
namespace Go.Proofs.Ythlolelbmhfdbaa
set_option maxRecDepth 20000
open Go.AE
theorem borderKnown_p  : Pure Try.prog 15 [] (.bool true) := by
  refine pure_of_body Try.func15 (c := body Try.f15) rfl (by simp [Try.ntmps15]) fun w0 Φ0 => ?_
  refine W_seq rfl ?_
  refine W_reg rfl ?_
  refine Rv rfl rfl rfl (U_assign rfl) rfl rfl ?_
  refine Re rfl ?_
  refine thenQ_n ?_
  refine W_seq rfl ?_
  refine W_reg rfl ?_
  refine Rv rfl rfl rfl (U_call rfl rfl (good_p) rfl) rfl rfl ?_
  refine Ra rfl rfl rfl (U_alloc) rfl rfl rfl ?_
  refine Rn rfl rfl rfl (U_storeAll rfl rfl rfl rfl rfl rfl) rfl ?_
  refine Re rfl ?_
  refine thenQ_n ?_
  refine WfrN 0 rfl rfl (T' := [(1, .rop [i64 goodS.h, i64 goodS.z, .ros (goodS.ls.map boxesL) goodS.ls.length none] 0)]) (H' := []) ⟨⟨_, rfl, rfl⟩, trivial⟩ trivial ?_
  refine W_seq rfl ?_
  refine W_reg rfl ?_
  refine Rv rfl rfl rfl (U_call rfl rfl (twice_p) rfl) rfl rfl ?_
  refine Rv rfl rfl rfl (U_call rfl rfl (ofA_p twiceS none (by first | assumption | decide +kernel) (by first | assumption | decide +kernel) 2 0) rfl) rfl rfl ?_
  refine Rv rfl rfl rfl (U_move rfl) rfl rfl ?_
  refine Rv rfl rfl rfl (U_extract rfl rfl) rfl rfl ?_
  refine Rv rfl rfl rfl (U_extract rfl rfl) rfl rfl ?_
  refine Rv rfl rfl rfl (U_assign rfl) rfl rfl ?_
  refine Rv rfl rfl rfl (U_assign rfl) rfl rfl ?_
  refine Re rfl ?_
  refine thenQ_n ?_
  refine W_seq rfl ?_
  refine W_reg rfl ?_
  refine Rv rfl rfl rfl (U_call rfl rfl (gap_p) rfl) rfl rfl ?_
  refine Rv rfl rfl rfl (U_call rfl rfl (fltA_p gapS none (by first | assumption | decide +kernel) (by first | assumption | decide +kernel)) rfl) rfl rfl ?_
  refine Rv rfl rfl rfl (U_move rfl) rfl rfl ?_
  refine Rv rfl rfl rfl (U_extract rfl rfl) rfl rfl ?_
  refine Rv rfl rfl rfl (U_extract rfl rfl) rfl rfl ?_
  refine Rv rfl rfl rfl (U_extract rfl rfl) rfl rfl ?_
  refine Rv rfl rfl rfl (U_extract rfl rfl) rfl rfl ?_
  refine Rv rfl rfl rfl (U_assign rfl) rfl rfl ?_
  refine Rv rfl rfl rfl (U_assign rfl) rfl rfl ?_
  refine Rv rfl rfl rfl (U_assign rfl) rfl rfl ?_
  refine Rv rfl rfl rfl (U_assign rfl) rfl rfl ?_
  refine Re rfl ?_
  refine thenQ_n ?_
  refine W_seq rfl ?_
  refine W_reg rfl ?_
  refine Rv rfl rfl rfl (U_load3 rfl rfl rfl rfl rfl) rfl rfl ?_
  refine Rv rfl rfl rfl (U_call rfl rfl (sizA_p goodS none (by first | assumption | decide +kernel) (by first | assumption | decide +kernel) 0) rfl) rfl rfl ?_
  refine Rv rfl rfl rfl (U_move rfl) rfl rfl ?_
  refine Rv rfl rfl rfl (U_extract rfl rfl) rfl rfl ?_
  refine Rv rfl rfl rfl (U_extract rfl rfl) rfl rfl ?_
  refine Rv rfl rfl rfl (U_assign rfl) rfl rfl ?_
  refine Rv rfl rfl rfl (U_assign rfl) rfl rfl ?_
  refine Re rfl ?_
  refine thenQ_n ?_
  refine W_seq rfl ?_
  refine W_reg rfl ?_
  refine Rv rfl rfl rfl (U_load3 rfl rfl rfl rfl rfl) rfl rfl ?_
  refine Rv rfl rfl rfl (U_call rfl rfl (sizA_p goodS none (by first | assumption | decide +kernel) (by first | assumption | decide +kernel) 2) rfl) rfl rfl ?_
  refine Rv rfl rfl rfl (U_move rfl) rfl rfl ?_
  refine Rv rfl rfl rfl (U_extract rfl rfl) rfl rfl ?_
  refine Rv rfl rfl rfl (U_extract rfl rfl) rfl rfl ?_
  refine Rv rfl rfl rfl (U_assign rfl) rfl rfl ?_
  refine Rv rfl rfl rfl (U_assign rfl) rfl rfl ?_
  refine Re rfl ?_
  refine thenQ_n ?_
  refine W_seq rfl ?_
  refine W_reg rfl ?_
  refine Rv rfl rfl rfl (U_load3 rfl rfl rfl rfl rfl) rfl rfl ?_
  refine Rv rfl rfl rfl (U_call rfl rfl (brdA_p goodS none (by first | assumption | decide +kernel) (by first | assumption | decide +kernel) 0 1) rfl) rfl rfl ?_
  refine Rv rfl rfl rfl (U_move rfl) rfl rfl ?_
  refine Rv rfl rfl rfl (U_extract rfl rfl) rfl rfl ?_
  refine Rv rfl rfl rfl (U_extract rfl rfl) rfl rfl ?_
  refine Rv rfl rfl rfl (U_assign rfl) rfl rfl ?_
  refine Rv rfl rfl rfl (U_assign rfl) rfl rfl ?_
  refine Re rfl ?_
  refine thenQ_n ?_
  refine W_seq rfl ?_
  refine W_reg rfl ?_
  refine Rv rfl rfl rfl (U_load3 rfl rfl rfl rfl rfl) rfl rfl ?_
  refine Rv rfl rfl rfl (U_call rfl rfl (brdA_p goodS none (by first | assumption | decide +kernel) (by first | assumption | decide +kernel) 0 2) rfl) rfl rfl ?_
  refine Rv rfl rfl rfl (U_move rfl) rfl rfl ?_
  refine Rv rfl rfl rfl (U_extract rfl rfl) rfl rfl ?_
  refine Rv rfl rfl rfl (U_extract rfl rfl) rfl rfl ?_
  refine Rv rfl rfl rfl (U_assign rfl) rfl rfl ?_
  refine Rv rfl rfl rfl (U_assign rfl) rfl rfl ?_
  refine Re rfl ?_
  refine thenQ_n ?_
  refine W_seq rfl ?_
  refine W_reg rfl ?_
  refine Rv rfl rfl rfl (U_load3 rfl rfl rfl rfl rfl) rfl rfl ?_
  refine Rv rfl rfl rfl (U_call rfl rfl (brdA_p goodS none (by first | assumption | decide +kernel) (by first | assumption | decide +kernel) 1 1) rfl) rfl rfl ?_
  refine Rv rfl rfl rfl (U_move rfl) rfl rfl ?_
  refine Rv rfl rfl rfl (U_extract rfl rfl) rfl rfl ?_
  refine Rv rfl rfl rfl (U_extract rfl rfl) rfl rfl ?_
  refine Rv rfl rfl rfl (U_assign rfl) rfl rfl ?_
  refine Rv rfl rfl rfl (U_assign rfl) rfl rfl ?_
  refine Re rfl ?_
  refine thenQ_n ?_
  refine W_seq rfl ?_
  refine Wdraw rfl (by kernel_rfl) (by kernel_rfl) ?_
  refine Dv rfl rfl rfl (U_load3 rfl rfl rfl rfl rfl) rfl rfl ?_
  refine Dv rfl rfl rfl (U_buildSliceF (by rfl) (by decide) rfl rfl rfl) rfl rfl ?_
  refine Dv rfl rfl rfl (U_call rfl rfl (of_p60 [0, 1] (some 2)) rfl) rfl rfl ?_
  refine Dv rfl rfl rfl (U_call rfl rfl (chtA_p goodS none (by first | assumption | decide +kernel) (by first | assumption | decide +kernel) [0, 1] (some 2) (by first | assumption | omega | exact Sz.le | (simp; done) | (simp; omega))) rfl) rfl rfl ?_
  refine Dv rfl rfl rfl (U_move rfl) rfl rfl ?_
  refine Dv rfl rfl rfl (U_extract rfl rfl) rfl rfl ?_
  refine Dv rfl rfl rfl (U_extract rfl rfl) rfl rfl ?_
  refine Dv rfl rfl rfl (U_assign rfl) rfl rfl ?_
  refine Dv rfl rfl rfl (U_assign rfl) rfl rfl ?_
  refine Dr.nil rfl ?_
  refine thenQ_n ?_
  refine W_seq rfl ?_
  refine Wdraw rfl (by kernel_rfl) (by kernel_rfl) ?_
  refine Dv rfl rfl rfl (U_load3 rfl rfl rfl rfl rfl) rfl rfl ?_
  refine Dv rfl rfl rfl (U_call rfl rfl (box_p 0 2 0 2) rfl) rfl rfl ?_
  refine Dv rfl rfl rfl (U_call rfl rfl (kinA_p goodS none (by first | assumption | decide +kernel) (by first | assumption | decide +kernel) 0 (⟨0, 2, 0, 2⟩ : Bx)) rfl) rfl rfl ?_
  refine Dv rfl rfl rfl (U_move rfl) rfl rfl ?_
  refine Dv rfl rfl rfl (U_extract rfl rfl) rfl rfl ?_
  refine Dv rfl rfl rfl (U_extract rfl rfl) rfl rfl ?_
  refine Dv rfl rfl rfl (U_assign rfl) rfl rfl ?_
  refine Dv rfl rfl rfl (U_assign rfl) rfl rfl ?_
  refine Dr.nil rfl ?_
  refine thenQ_n ?_
  refine W_seq rfl ?_
  refine Wdraw rfl (by kernel_rfl) (by kernel_rfl) ?_
  refine Dv rfl rfl rfl (U_load3 rfl rfl rfl rfl rfl) rfl rfl ?_
  refine Dv rfl rfl rfl (U_call rfl rfl (box_p 5 2 1 2) rfl) rfl rfl ?_
  refine Dv rfl rfl rfl (U_call rfl rfl (kinA_p goodS none (by first | assumption | decide +kernel) (by first | assumption | decide +kernel) 1 (⟨5, 2, 1, 2⟩ : Bx)) rfl) rfl rfl ?_
  refine Dv rfl rfl rfl (U_move rfl) rfl rfl ?_
  refine Dv rfl rfl rfl (U_extract rfl rfl) rfl rfl ?_
  refine Dv rfl rfl rfl (U_extract rfl rfl) rfl rfl ?_
  refine Dv rfl rfl rfl (U_assign rfl) rfl rfl ?_
  refine Dv rfl rfl rfl (U_assign rfl) rfl rfl ?_
  refine Dr.nil rfl ?_
  refine thenQ_n ?_
  refine W_seq rfl ?_
  refine Wdraw rfl (by kernel_rfl) (by kernel_rfl) ?_
  refine Dv rfl rfl rfl (U_load3 rfl rfl rfl rfl rfl) rfl rfl ?_
  refine Dv rfl rfl rfl (U_call rfl rfl (box_p 6 1 0 1) rfl) rfl rfl ?_
  refine Dv rfl rfl rfl (U_call rfl rfl (kinA_p goodS none (by first | assumption | decide +kernel) (by first | assumption | decide +kernel) 0 (⟨6, 1, 0, 1⟩ : Bx)) rfl) rfl rfl ?_
  refine Dv rfl rfl rfl (U_move rfl) rfl rfl ?_
  refine Dv rfl rfl rfl (U_extract rfl rfl) rfl rfl ?_
  refine Dv rfl rfl rfl (U_extract rfl rfl) rfl rfl ?_
  refine Dv rfl rfl rfl (U_assign rfl) rfl rfl ?_
  refine Dv rfl rfl rfl (U_assign rfl) rfl rfl ?_
  refine Dr.nil rfl ?_
  refine thenQ_n ?_
  refine W_seq rfl ?_
  refine Wdraw rfl (by kernel_rfl) (by kernel_rfl) ?_
  refine Dv rfl rfl rfl (U_load3 rfl rfl rfl rfl rfl) rfl rfl ?_
  refine Dv rfl rfl rfl (U_call rfl rfl (box_p 5 1 0 3) rfl) rfl rfl ?_
  refine Dv rfl rfl rfl (U_call rfl rfl (givA_p goodS none (by first | assumption | decide +kernel) (by first | assumption | decide +kernel) 0 (⟨5, 1, 0, 3⟩ : Bx)) rfl) rfl rfl ?_
  refine Dv rfl rfl rfl (U_move rfl) rfl rfl ?_
  refine Dv rfl rfl rfl (U_extract rfl rfl) rfl rfl ?_
  refine Dv rfl rfl rfl (U_extract rfl rfl) rfl rfl ?_
  refine Da rfl rfl rfl (U_alloc) rfl rfl rfl rfl ?_
  refine Dn_ rfl rfl rfl (U_storeAll rfl rfl rfl rfl rfl rfl) rfl rfl ?_
  refine Dv rfl rfl rfl (U_assign rfl) rfl rfl ?_
  refine Dr.nil rfl ?_
  refine thenQ_n ?_
  refine WfrN 1 rfl rfl (T' := [(2, .ros ((ofR twiceS 2 0).map i64) ((ofR twiceS 2 0).length) none), (3, i64 (ofE twiceS 2 0)), (4, i64 ((fltR gapS).1)), (5, i64 ((fltR gapS).2.1)), (6, i64 ((fltR gapS).2.2.1)), (7, i64 ((fltR gapS).2.2.2)), (8, i64 (sizR goodS 0)), (9, i64 (opS goodS [0])), (10, i64 (sizR goodS 2)), (11, i64 (opS goodS [2])), (12, i64 (brdR goodS 0 1)), (13, i64 (brdE goodS 0 1)), (14, i64 (brdR goodS 0 2)), (15, i64 (brdE goodS 0 2)), (17, i64 (brdE goodS 1 1)), (19, i64 (chtE goodS [0, 1])), (20, i64 (kinR goodS 0 (⟨0, 2, 0, 2⟩ : Bx))), (21, i64 (boxE goodS 0 (⟨0, 2, 0, 2⟩ : Bx))), (22, i64 (kinR goodS 1 (⟨5, 2, 1, 2⟩ : Bx))), (23, i64 (boxE goodS 1 (⟨5, 2, 1, 2⟩ : Bx))), (25, i64 (boxE goodS 0 (⟨6, 1, 0, 1⟩ : Bx))), (26, .rop [i64 ((gvR goodS 0 (⟨5, 1, 0, 3⟩ : Bx)).h), i64 ((gvR goodS 0 (⟨5, 1, 0, 3⟩ : Bx)).z), .ros (((gvR goodS 0 (⟨5, 1, 0, 3⟩ : Bx)).ls).map boxesL) (((gvR goodS 0 (⟨5, 1, 0, 3⟩ : Bx)).ls).length) none] 0), (27, i64 (boxE goodS 0 (⟨5, 1, 0, 3⟩ : Bx)))]) (H' := []) ⟨⟨_, rfl, rfl⟩, ⟨_, rfl, rfl⟩, ⟨_, rfl, rfl⟩, ⟨_, rfl, rfl⟩, ⟨_, rfl, rfl⟩, ⟨_, rfl, rfl⟩, ⟨_, rfl, rfl⟩, ⟨_, rfl, rfl⟩, ⟨_, rfl, rfl⟩, ⟨_, rfl, rfl⟩, ⟨_, rfl, rfl⟩, ⟨_, rfl, rfl⟩, ⟨_, rfl, rfl⟩, ⟨_, rfl, rfl⟩, ⟨_, rfl, rfl⟩, ⟨_, rfl, rfl⟩, ⟨_, rfl, rfl⟩, ⟨_, rfl, rfl⟩, ⟨_, rfl, rfl⟩, ⟨_, rfl, rfl⟩, ⟨_, rfl, rfl⟩, ⟨_, rfl, rfl⟩, ⟨_, rfl, rfl⟩, trivial⟩ trivial ?_
  refine W_seq rfl ?_
  refine W_seq rfl ?_
  refine W_reg rfl ?_
  refine Rv rfl rfl rfl (U_fieldAddrR rfl) rfl rfl ?_
  refine Rv rfl rfl rfl (U_load1 rfl rfl rfl) rfl rfl ?_
  refine Rv rfl rfl rfl (U_lenOf rfl len_ros) rfl rfl ?_
  refine Rv rfl rfl rfl (U_neqE (a := ((((gvR goodS 0 (⟨5, 1, 0, 3⟩ : Bx)).ls).length : Nat) : Int)) (b := 3) rfl rfl (by decide +kernel)) rfl rfl ?_
  refine Re rfl ?_
  refine thenQ_n ?_
  refine Wcond rfl rfl (fun h => nomatch h) (fun _ => ?_)
  refine W_skip rfl ?_
  refine thenQ_n ?_
  refine W_seq rfl ?_
  refine Wdraw rfl (by kernel_rfl) (by kernel_rfl) ?_
  refine Dv rfl rfl rfl (U_move rfl) rfl rfl ?_
  refine Dv rfl rfl rfl (U_eqlE (a := (ofE twiceS 2 0)) (b := 0) rfl rfl (by decide +kernel)) rfl rfl ?_
  refine Dv rfl rfl rfl (U_move rfl) rfl rfl ?_
  refine Dv rfl rfl rfl (U_move rfl) rfl rfl ?_
  refine Dv rfl rfl rfl (U_buildSliceF (by rfl) (by decide) rfl rfl rfl) rfl rfl ?_
  refine Dv rfl rfl rfl (U_call rfl rfl (of_p60 [0, 1] (some 2)) rfl) rfl rfl ?_
  refine Dv rfl rfl rfl (U_call rfl rfl (intsT_p (ofR twiceS 2 0) [0, 1] none (some 2) (by first | assumption | omega | (simp; done) | decide +kernel | exact of_mem (by decide +kernel) _) (by first | assumption | omega | (simp; done) | decide +kernel | exact of_mem (by decide +kernel) _) (by first | decide +kernel | exact ge_of _ (by decide +kernel))) rfl) rfl rfl ?_
  refine Dv rfl rfl rfl (U_pick_t rfl rfl) rfl rfl ?_
  refine Dv rfl rfl rfl (U_move rfl) rfl rfl ?_
  refine Dv rfl rfl rfl (U_move rfl) rfl rfl ?_
  refine Dv rfl rfl rfl (U_eqlE (a := ((fltR gapS).2.2.2)) (b := 0) rfl rfl (by decide +kernel)) rfl rfl ?_
  refine Dv rfl rfl rfl (U_pick_t rfl rfl) rfl rfl ?_
  refine Dv rfl rfl rfl (U_move rfl) rfl rfl ?_
  refine Dv rfl rfl rfl (U_move rfl) rfl rfl ?_
  refine Dv rfl rfl rfl (U_eqlE (a := ((fltR gapS).1)) (b := 0) rfl rfl (by decide +kernel)) rfl rfl ?_
  refine Dv rfl rfl rfl (U_pick_t rfl rfl) rfl rfl ?_
  refine Dv rfl rfl rfl (U_move rfl) rfl rfl ?_
  refine Dv rfl rfl rfl (U_move rfl) rfl rfl ?_
  refine Dv rfl rfl rfl (U_eqlE (a := ((fltR gapS).2.1)) (b := 2) rfl rfl (by decide +kernel)) rfl rfl ?_
  refine Dv rfl rfl rfl (U_pick_t rfl rfl) rfl rfl ?_
  refine Dv rfl rfl rfl (U_move rfl) rfl rfl ?_
  refine Dv rfl rfl rfl (U_move rfl) rfl rfl ?_
  refine Dv rfl rfl rfl (U_eqlE (a := ((fltR gapS).2.2.1)) (b := 0) rfl rfl (by decide +kernel)) rfl rfl ?_
  refine Dv rfl rfl rfl (U_pick_t rfl rfl) rfl rfl ?_
  refine Dv rfl rfl rfl (U_move rfl) rfl rfl ?_
  refine Dv rfl rfl rfl (U_move rfl) rfl rfl ?_
  refine Dv rfl rfl rfl (U_eqlE (a := (opS goodS [0])) (b := 0) rfl rfl (by decide +kernel)) rfl rfl ?_
  refine Dv rfl rfl rfl (U_pick_t rfl rfl) rfl rfl ?_
  refine Dv rfl rfl rfl (U_move rfl) rfl rfl ?_
  refine Dv rfl rfl rfl (U_move rfl) rfl rfl ?_
  refine Dv rfl rfl rfl (U_eqlE (a := (sizR goodS 0)) (b := 4) rfl rfl (by decide +kernel)) rfl rfl ?_
  refine Dv rfl rfl rfl (U_pick_t rfl rfl) rfl rfl ?_
  refine Dv rfl rfl rfl (U_move rfl) rfl rfl ?_
  refine Dv rfl rfl rfl (U_move rfl) rfl rfl ?_
  refine Dv rfl rfl rfl (U_eqlE (a := (opS goodS [2])) (b := 0) rfl rfl (by decide +kernel)) rfl rfl ?_
  refine Dv rfl rfl rfl (U_pick_t rfl rfl) rfl rfl ?_
  refine Dv rfl rfl rfl (U_move rfl) rfl rfl ?_
  refine Dv rfl rfl rfl (U_move rfl) rfl rfl ?_
  refine Dv rfl rfl rfl (U_eqlE (a := (sizR goodS 2)) (b := 8) rfl rfl (by decide +kernel)) rfl rfl ?_
  refine Dv rfl rfl rfl (U_pick_t rfl rfl) rfl rfl ?_
  refine Dv rfl rfl rfl (U_move rfl) rfl rfl ?_
  refine Dv rfl rfl rfl (U_move rfl) rfl rfl ?_
  refine Dv rfl rfl rfl (U_eqlE (a := (brdE goodS 0 1)) (b := 0) rfl rfl (by decide +kernel)) rfl rfl ?_
  refine Dv rfl rfl rfl (U_pick_t rfl rfl) rfl rfl ?_
  refine Dv rfl rfl rfl (U_move rfl) rfl rfl ?_
  refine Dv rfl rfl rfl (U_move rfl) rfl rfl ?_
  refine Dv rfl rfl rfl (U_eqlE (a := (brdR goodS 0 1)) (b := 3) rfl rfl (by decide +kernel)) rfl rfl ?_
  refine Dv rfl rfl rfl (U_pick_t rfl rfl) rfl rfl ?_
  refine Dv rfl rfl rfl (U_move rfl) rfl rfl ?_
  refine Dv rfl rfl rfl (U_move rfl) rfl rfl ?_
  refine Dv rfl rfl rfl (U_eqlE (a := (brdE goodS 0 2)) (b := 0) rfl rfl (by decide +kernel)) rfl rfl ?_
  refine Dv rfl rfl rfl (U_pick_t rfl rfl) rfl rfl ?_
  refine Dv rfl rfl rfl (U_move rfl) rfl rfl ?_
  refine Dv rfl rfl rfl (U_move rfl) rfl rfl ?_
  refine Dv rfl rfl rfl (U_eqlE (a := (brdR goodS 0 2)) (b := 3) rfl rfl (by decide +kernel)) rfl rfl ?_
  refine Dv rfl rfl rfl (U_pick_t rfl rfl) rfl rfl ?_
  refine Dv rfl rfl rfl (U_move rfl) rfl rfl ?_
  refine Dv rfl rfl rfl (U_move rfl) rfl rfl ?_
  refine Dv rfl rfl rfl (U_eqlE (a := (brdE goodS 1 1)) (b := 15) rfl rfl (by decide +kernel)) rfl rfl ?_
  refine Dv rfl rfl rfl (U_pick_t rfl rfl) rfl rfl ?_
  refine Dv rfl rfl rfl (U_move rfl) rfl rfl ?_
  refine Dv rfl rfl rfl (U_move rfl) rfl rfl ?_
  refine Dv rfl rfl rfl (U_eqlE (a := (chtE goodS [0, 1])) (b := 15) rfl rfl (by decide +kernel)) rfl rfl ?_
  refine Dv rfl rfl rfl (U_pick_t rfl rfl) rfl rfl ?_
  refine Dv rfl rfl rfl (U_move rfl) rfl rfl ?_
  refine Dv rfl rfl rfl (U_move rfl) rfl rfl ?_
  refine Dv rfl rfl rfl (U_eqlE (a := (boxE goodS 0 (⟨0, 2, 0, 2⟩ : Bx))) (b := 0) rfl rfl (by decide +kernel)) rfl rfl ?_
  refine Dv rfl rfl rfl (U_pick_t rfl rfl) rfl rfl ?_
  refine Dv rfl rfl rfl (U_move rfl) rfl rfl ?_
  refine Dv rfl rfl rfl (U_move rfl) rfl rfl ?_
  refine Dv rfl rfl rfl (U_eqlE (a := (kinR goodS 0 (⟨0, 2, 0, 2⟩ : Bx))) (b := 2) rfl rfl (by decide +kernel)) rfl rfl ?_
  refine Dv rfl rfl rfl (U_pick_t rfl rfl) rfl rfl ?_
  refine Dv rfl rfl rfl (U_move rfl) rfl rfl ?_
  refine Dv rfl rfl rfl (U_move rfl) rfl rfl ?_
  refine Dv rfl rfl rfl (U_eqlE (a := (boxE goodS 1 (⟨5, 2, 1, 2⟩ : Bx))) (b := 0) rfl rfl (by decide +kernel)) rfl rfl ?_
  refine Dv rfl rfl rfl (U_pick_t rfl rfl) rfl rfl ?_
  refine Dv rfl rfl rfl (U_move rfl) rfl rfl ?_
  refine Dv rfl rfl rfl (U_move rfl) rfl rfl ?_
  refine Dv rfl rfl rfl (U_eqlE (a := (kinR goodS 1 (⟨5, 2, 1, 2⟩ : Bx))) (b := 0) rfl rfl (by decide +kernel)) rfl rfl ?_
  refine Dv rfl rfl rfl (U_pick_t rfl rfl) rfl rfl ?_
  refine Dv rfl rfl rfl (U_move rfl) rfl rfl ?_
  refine Dv rfl rfl rfl (U_move rfl) rfl rfl ?_
  refine Dv rfl rfl rfl (U_eqlE (a := (boxE goodS 0 (⟨6, 1, 0, 1⟩ : Bx))) (b := 3) rfl rfl (by decide +kernel)) rfl rfl ?_
  refine Dv rfl rfl rfl (U_pick_t rfl rfl) rfl rfl ?_
  refine Dv rfl rfl rfl (U_move rfl) rfl rfl ?_
  refine Dv rfl rfl rfl (U_move rfl) rfl rfl ?_
  refine Dv rfl rfl rfl (U_eqlE (a := (boxE goodS 0 (⟨5, 1, 0, 3⟩ : Bx))) (b := 0) rfl rfl (by decide +kernel)) rfl rfl ?_
  refine Dv rfl rfl rfl (U_pick_t rfl rfl) rfl rfl ?_
  refine Dv rfl rfl rfl (U_move rfl) rfl rfl ?_
  refine Dv rfl rfl rfl (U_fieldAddrR rfl) rfl rfl ?_
  refine Dv rfl rfl rfl (U_load1 rfl rfl rfl) rfl rfl ?_
  have hx1 : 2 < ((gvR goodS 0 (⟨5, 1, 0, 3⟩ : Bx)).ls).length := by decide +kernel
  refine Dv rfl rfl rfl (U_indexR (j := 2) rfl rfl rfl hx1) rfl rfl ?_
  refine Dv rfl rfl rfl (U_load1 rfl rfl (getM hx1)) rfl rfl ?_
  refine Dv rfl rfl rfl (U_buildSliceF (by rfl) (by decide) rfl rfl rfl) rfl rfl ?_
  refine Dv rfl rfl rfl (U_call rfl rfl (boxes_p [4, 1, 1, 2, 0, 5, 2, 3] (some 8) (by simp)) rfl) rfl rfl ?_
  refine Dv rfl rfl rfl (U_call rfl rfl (samBT_p (((gvR goodS 0 (⟨5, 1, 0, 3⟩ : Bx)).ls)[2]) (bxsQ [4, 1, 1, 2, 0, 5, 2, 3]) none none (by first | assumption | omega | (simp; done) | decide +kernel | exact of_mem (by decide +kernel) _) (by first | assumption | omega | (simp; done) | decide +kernel | exact of_mem (by decide +kernel) _) (by first | decide +kernel | exact ge_of _ (by decide +kernel))) rfl) rfl rfl ?_
  refine Dv rfl rfl rfl (U_pick_t rfl rfl) rfl rfl ?_
  refine Dv rfl rfl rfl (U_move rfl) rfl rfl ?_
  refine Dv rfl rfl rfl (U_call rfl rfl (works_p) rfl) rfl rfl ?_
  refine Dv rfl rfl rfl (U_pick_t rfl rfl) rfl rfl ?_
  refine Dv rfl rfl rfl (U_assign rfl) rfl rfl ?_
  refine Dr.nil rfl ?_
  refine thenQ_n ?_
  refine W_ret rfl ?_
  exact retL (rlT rfl rl0) rfl rfl
end Go.Proofs.Ythlolelbmhfdbaa
end
