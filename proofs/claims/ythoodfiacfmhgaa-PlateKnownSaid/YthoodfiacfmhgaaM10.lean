import Derived.Test.YthoodfiacfmhgaaM8
import Derived.Test.YthoodfiacfmhgaaM4
set_option linter.all false
section
/- The examples of the chapter of plates. -/
namespace Go.Proofs.Ythoodfiacfmhgaa
set_option maxRecDepth 20000
open Go.AE
theorem plateKnown_p  : Pure Try.prog 16 [] (.bool true) := by
  refine pure_of_body Try.func16 (c := body Try.f16) rfl (by simp [Try.ntmps16]) fun w0 Φ0 => ?_
  refine W_seq rfl ?_
  refine W_reg rfl ?_
  refine Rv rfl rfl rfl (U_assign rfl) rfl rfl ?_
  refine Re rfl ?_
  refine thenQ_n ?_
  refine W_seq rfl ?_
  refine W_reg rfl ?_
  refine Rv rfl rfl rfl (U_buildSliceF (by rfl) (by decide) rfl rfl rfl) rfl rfl ?_
  refine Rv rfl rfl rfl (U_call rfl rfl (square_p 2 [1, 0, 0, 0] (some 4)) rfl) rfl rfl ?_
  refine Rv rfl rfl rfl (U_buildSliceF (by rfl) (by decide) rfl rfl rfl) rfl rfl ?_
  refine Rv rfl rfl rfl (U_call rfl rfl (square_p 2 [0, 1, 0, 0] (some 4)) rfl) rfl rfl ?_
  refine Ra rfl rfl rfl (U_alloc) rfl rfl rfl ?_
  refine Ra rfl rfl rfl (U_alloc) rfl rfl rfl ?_
  refine Rn rfl rfl rfl (U_storeAll rfl rfl rfl rfl rfl rfl) rfl ?_
  refine Rn rfl rfl rfl (U_storeAll rfl rfl rfl rfl rfl rfl) rfl ?_
  refine Re rfl ?_
  refine thenQ_n ?_
  refine WfrN 0 rfl rfl (T' := [(1, .rop [i64 ((⟨2, [1, 0, 0, 0]⟩ : Pl).n), .ros (((⟨2, [1, 0, 0, 0]⟩ : Pl).ds).map i64) (((⟨2, [1, 0, 0, 0]⟩ : Pl).ds).length) (some 4)] 0), (2, .ptr 1 0)]) (H' := [(1, some (.cells [i64 ((⟨2, [0, 1, 0, 0]⟩ : Pl).n), .ros (((⟨2, [0, 1, 0, 0]⟩ : Pl).ds).map i64) (((⟨2, [0, 1, 0, 0]⟩ : Pl).ds).length) (some 4)] 24))]) ⟨⟨_, rfl, rfl⟩, ⟨_, rfl, rfl⟩, trivial⟩ ⟨⟨rfl, rF rfl rfl⟩, trivial⟩ ?_
  refine WfrN 1 rfl rfl (T' := [(1, .rop [i64 ((⟨2, [1, 0, 0, 0]⟩ : Pl).n), .ros (((⟨2, [1, 0, 0, 0]⟩ : Pl).ds).map i64) (((⟨2, [1, 0, 0, 0]⟩ : Pl).ds).length) (some 4)] 0), (2, .rop [i64 ((⟨2, [0, 1, 0, 0]⟩ : Pl).n), .ros (((⟨2, [0, 1, 0, 0]⟩ : Pl).ds).map i64) (((⟨2, [0, 1, 0, 0]⟩ : Pl).ds).length) (some 4)] 0)]) (H' := []) ⟨⟨_, rfl, rfl⟩, ⟨_, rfl, rfl⟩, trivial⟩ trivial ?_
  refine W_seq rfl ?_
  refine W_reg rfl ?_
  refine Rv rfl rfl rfl (U_load2 rfl rfl rfl rfl) rfl rfl ?_
  refine Rv rfl rfl rfl (U_call rfl rfl (move_p (⟨2, [1, 0, 0, 0]⟩ : Pl) (some 4) (by first | assumption | omega | exact Sz.le | (simp; done) | (simp; omega)) 2) rfl) rfl rfl ?_
  refine Rv rfl rfl rfl (U_move rfl) rfl rfl ?_
  refine Rv rfl rfl rfl (U_extract rfl rfl) rfl rfl ?_
  refine Rv rfl rfl rfl (U_extract rfl rfl) rfl rfl ?_
  refine Ra rfl rfl rfl (U_alloc) rfl rfl rfl ?_
  refine Rn rfl rfl rfl (U_storeAll rfl rfl rfl rfl rfl rfl) rfl ?_
  refine Rv rfl rfl rfl (U_assign rfl) rfl rfl ?_
  refine Re rfl ?_
  refine thenQ_n ?_
  refine WfrN 2 rfl rfl (T' := [(1, .rop [i64 ((⟨2, [1, 0, 0, 0]⟩ : Pl).n), .ros (((⟨2, [1, 0, 0, 0]⟩ : Pl).ds).map i64) (((⟨2, [1, 0, 0, 0]⟩ : Pl).ds).length) (some 4)] 0), (2, .rop [i64 ((⟨2, [0, 1, 0, 0]⟩ : Pl).n), .ros (((⟨2, [0, 1, 0, 0]⟩ : Pl).ds).map i64) (((⟨2, [0, 1, 0, 0]⟩ : Pl).ds).length) (some 4)] 0), (3, .rop [i64 ((mvR (⟨2, [1, 0, 0, 0]⟩ : Pl) 2).n), .ros (((mvR (⟨2, [1, 0, 0, 0]⟩ : Pl) 2).ds).map i64) (((mvR (⟨2, [1, 0, 0, 0]⟩ : Pl) 2).ds).length) none] 0), (4, i64 (mvE (⟨2, [1, 0, 0, 0]⟩ : Pl) 2))]) (H' := []) ⟨⟨_, rfl, rfl⟩, ⟨_, rfl, rfl⟩, ⟨_, rfl, rfl⟩, ⟨_, rfl, rfl⟩, trivial⟩ trivial ?_
  refine W_seq rfl ?_
  refine W_reg rfl ?_
  refine Rv rfl rfl rfl (U_load2 rfl rfl rfl rfl) rfl rfl ?_
  refine Rv rfl rfl rfl (U_call rfl rfl (move_p (⟨2, [1, 0, 0, 0]⟩ : Pl) (some 4) (by first | assumption | omega | exact Sz.le | (simp; done) | (simp; omega)) 4) rfl) rfl rfl ?_
  refine Rv rfl rfl rfl (U_move rfl) rfl rfl ?_
  refine Rv rfl rfl rfl (U_extract rfl rfl) rfl rfl ?_
  refine Rv rfl rfl rfl (U_extract rfl rfl) rfl rfl ?_
  refine Ra rfl rfl rfl (U_alloc) rfl rfl rfl ?_
  refine Rn rfl rfl rfl (U_storeAll rfl rfl rfl rfl rfl rfl) rfl ?_
  refine Rv rfl rfl rfl (U_assign rfl) rfl rfl ?_
  refine Re rfl ?_
  refine thenQ_n ?_
  refine WfrN 3 rfl rfl (T' := [(1, .rop [i64 ((⟨2, [1, 0, 0, 0]⟩ : Pl).n), .ros (((⟨2, [1, 0, 0, 0]⟩ : Pl).ds).map i64) (((⟨2, [1, 0, 0, 0]⟩ : Pl).ds).length) (some 4)] 0), (2, .rop [i64 ((⟨2, [0, 1, 0, 0]⟩ : Pl).n), .ros (((⟨2, [0, 1, 0, 0]⟩ : Pl).ds).map i64) (((⟨2, [0, 1, 0, 0]⟩ : Pl).ds).length) (some 4)] 0), (3, .rop [i64 ((mvR (⟨2, [1, 0, 0, 0]⟩ : Pl) 2).n), .ros (((mvR (⟨2, [1, 0, 0, 0]⟩ : Pl) 2).ds).map i64) (((mvR (⟨2, [1, 0, 0, 0]⟩ : Pl) 2).ds).length) none] 0), (4, i64 (mvE (⟨2, [1, 0, 0, 0]⟩ : Pl) 2)), (5, .rop [i64 ((mvR (⟨2, [1, 0, 0, 0]⟩ : Pl) 4).n), .ros (((mvR (⟨2, [1, 0, 0, 0]⟩ : Pl) 4).ds).map i64) (((mvR (⟨2, [1, 0, 0, 0]⟩ : Pl) 4).ds).length) none] 0), (6, i64 (mvE (⟨2, [1, 0, 0, 0]⟩ : Pl) 4))]) (H' := []) ⟨⟨_, rfl, rfl⟩, ⟨_, rfl, rfl⟩, ⟨_, rfl, rfl⟩, ⟨_, rfl, rfl⟩, ⟨_, rfl, rfl⟩, ⟨_, rfl, rfl⟩, trivial⟩ trivial ?_
  refine W_seq rfl ?_
  refine W_reg rfl ?_
  refine Rv rfl rfl rfl (U_call rfl rfl (afterA_p 4 1) rfl) rfl rfl ?_
  refine Rv rfl rfl rfl (U_move rfl) rfl rfl ?_
  refine Rv rfl rfl rfl (U_extract rfl rfl) rfl rfl ?_
  refine Rv rfl rfl rfl (U_extract rfl rfl) rfl rfl ?_
  refine Rv rfl rfl rfl (U_assign rfl) rfl rfl ?_
  refine Rv rfl rfl rfl (U_assign rfl) rfl rfl ?_
  refine Re rfl ?_
  refine thenQ_n ?_
  refine W_seq rfl ?_
  refine W_reg rfl ?_
  refine Rv rfl rfl rfl (U_call rfl rfl (inverseA_p 5) rfl) rfl rfl ?_
  refine Rv rfl rfl rfl (U_move rfl) rfl rfl ?_
  refine Rv rfl rfl rfl (U_extract rfl rfl) rfl rfl ?_
  refine Rv rfl rfl rfl (U_extract rfl rfl) rfl rfl ?_
  refine Rv rfl rfl rfl (U_assign rfl) rfl rfl ?_
  refine Rv rfl rfl rfl (U_assign rfl) rfl rfl ?_
  refine Re rfl ?_
  refine thenQ_n ?_
  refine W_seq rfl ?_
  refine W_reg rfl ?_
  refine Rv rfl rfl rfl (U_buildSliceF (by rfl) (by decide) rfl rfl rfl) rfl rfl ?_
  refine Rv rfl rfl rfl (U_call rfl rfl (of_p [1] (some 1)) rfl) rfl rfl ?_
  refine Rv rfl rfl rfl (U_call rfl rfl (reachedA_p [1] (some 1) (by first | assumption | omega | exact Sz.le | (simp; done) | (simp; omega))) rfl) rfl rfl ?_
  refine Rv rfl rfl rfl (U_move rfl) rfl rfl ?_
  refine Rv rfl rfl rfl (U_extract rfl rfl) rfl rfl ?_
  refine Rv rfl rfl rfl (U_extract rfl rfl) rfl rfl ?_
  refine Rv rfl rfl rfl (U_assign rfl) rfl rfl ?_
  refine Rv rfl rfl rfl (U_assign rfl) rfl rfl ?_
  refine Re rfl ?_
  refine thenQ_n ?_
  refine W_seq rfl ?_
  refine W_reg rfl ?_
  refine Rv rfl rfl rfl (U_buildSliceF (by rfl) (by decide) rfl rfl rfl) rfl rfl ?_
  refine Rv rfl rfl rfl (U_call rfl rfl (of_p [4, 1] (some 2)) rfl) rfl rfl ?_
  refine Rv rfl rfl rfl (U_call rfl rfl (reachedA_p [4, 1] (some 2) (by first | assumption | omega | exact Sz.le | (simp; done) | (simp; omega))) rfl) rfl rfl ?_
  refine Rv rfl rfl rfl (U_move rfl) rfl rfl ?_
  refine Rv rfl rfl rfl (U_extract rfl rfl) rfl rfl ?_
  refine Rv rfl rfl rfl (U_extract rfl rfl) rfl rfl ?_
  refine Rv rfl rfl rfl (U_assign rfl) rfl rfl ?_
  refine Rv rfl rfl rfl (U_assign rfl) rfl rfl ?_
  refine Re rfl ?_
  refine thenQ_n ?_
  refine W_seq rfl ?_
  refine W_reg rfl ?_
  refine Rv rfl rfl rfl (U_buildSliceF (by rfl) (by decide) rfl rfl rfl) rfl rfl ?_
  refine Rv rfl rfl rfl (U_call rfl rfl (of_p [1] (some 1)) rfl) rfl rfl ?_
  refine Rv rfl rfl rfl (U_call rfl rfl (planA_p [1] (some 1) (by first | assumption | omega | exact Sz.le | (simp; done) | (simp; omega)) 3) rfl) rfl rfl ?_
  refine Rv rfl rfl rfl (U_move rfl) rfl rfl ?_
  refine Rv rfl rfl rfl (U_extract rfl rfl) rfl rfl ?_
  refine Rv rfl rfl rfl (U_extract rfl rfl) rfl rfl ?_
  refine Rv rfl rfl rfl (U_assign rfl) rfl rfl ?_
  refine Rv rfl rfl rfl (U_assign rfl) rfl rfl ?_
  refine Re rfl ?_
  refine thenQ_n ?_
  refine W_seq rfl ?_
  refine W_reg rfl ?_
  refine Rv rfl rfl rfl (U_buildSliceF (by rfl) (by decide) rfl rfl rfl) rfl rfl ?_
  refine Rv rfl rfl rfl (U_call rfl rfl (of_p [4] (some 1)) rfl) rfl rfl ?_
  refine Rv rfl rfl rfl (U_call rfl rfl (heightsA_p [4] (some 1) (by first | assumption | omega | exact Sz.le | (simp; done) | (simp; omega))) rfl) rfl rfl ?_
  refine Rv rfl rfl rfl (U_move rfl) rfl rfl ?_
  refine Rv rfl rfl rfl (U_extract rfl rfl) rfl rfl ?_
  refine Rv rfl rfl rfl (U_extract rfl rfl) rfl rfl ?_
  refine Rv rfl rfl rfl (U_assign rfl) rfl rfl ?_
  refine Rv rfl rfl rfl (U_assign rfl) rfl rfl ?_
  refine Re rfl ?_
  refine thenQ_n ?_
  refine W_seq rfl ?_
  refine Wdraw rfl (by kernel_rfl) (by kernel_rfl) ?_
  refine Dv rfl rfl rfl (U_load2 rfl rfl rfl rfl) rfl rfl ?_
  refine Dv rfl rfl rfl (U_buildSliceF (by rfl) (by decide) rfl rfl rfl) rfl rfl ?_
  refine Dv rfl rfl rfl (U_call rfl rfl (of_p [4] (some 1)) rfl) rfl rfl ?_
  refine Dv rfl rfl rfl (U_call rfl rfl (least_p (⟨2, [1, 0, 0, 0]⟩ : Pl) (some 4) (by first | assumption | omega | exact Sz.le | (simp; done) | (simp; omega)) [4] (some 1) (by first | assumption | omega | exact Sz.le | (simp; done) | (simp; omega))) rfl) rfl rfl ?_
  refine Dv rfl rfl rfl (U_move rfl) rfl rfl ?_
  refine Dv rfl rfl rfl (U_extract rfl rfl) rfl rfl ?_
  refine Dv rfl rfl rfl (U_extract rfl rfl) rfl rfl ?_
  refine Dv rfl rfl rfl (U_extract rfl rfl) rfl rfl ?_
  refine Da rfl rfl rfl (U_alloc) rfl rfl rfl rfl ?_
  refine Dn_ rfl rfl rfl (U_storeAll rfl rfl rfl rfl rfl rfl) rfl rfl ?_
  refine Dv rfl rfl rfl (U_assign rfl) rfl rfl ?_
  refine Dv rfl rfl rfl (U_assign rfl) rfl rfl ?_
  refine Dr.nil rfl ?_
  refine thenQ_n ?_
  refine WfrN 4 rfl rfl (T' := [(1, .rop [i64 ((⟨2, [1, 0, 0, 0]⟩ : Pl).n), .ros (((⟨2, [1, 0, 0, 0]⟩ : Pl).ds).map i64) (((⟨2, [1, 0, 0, 0]⟩ : Pl).ds).length) (some 4)] 0), (2, .rop [i64 ((⟨2, [0, 1, 0, 0]⟩ : Pl).n), .ros (((⟨2, [0, 1, 0, 0]⟩ : Pl).ds).map i64) (((⟨2, [0, 1, 0, 0]⟩ : Pl).ds).length) (some 4)] 0), (3, .rop [i64 ((mvR (⟨2, [1, 0, 0, 0]⟩ : Pl) 2).n), .ros (((mvR (⟨2, [1, 0, 0, 0]⟩ : Pl) 2).ds).map i64) (((mvR (⟨2, [1, 0, 0, 0]⟩ : Pl) 2).ds).length) none] 0), (4, i64 (mvE (⟨2, [1, 0, 0, 0]⟩ : Pl) 2)), (5, .rop [i64 ((mvR (⟨2, [1, 0, 0, 0]⟩ : Pl) 4).n), .ros (((mvR (⟨2, [1, 0, 0, 0]⟩ : Pl) 4).ds).map i64) (((mvR (⟨2, [1, 0, 0, 0]⟩ : Pl) 4).ds).length) none] 0), (6, i64 (mvE (⟨2, [1, 0, 0, 0]⟩ : Pl) 4)), (7, i64 (aftR 4 1)), (8, i64 (aftE 4 1)), (9, i64 (invR 5)), (10, i64 (invE 5)), (11, .ros ((reaR [1]).map i64) ((reaR [1]).length) none), (12, i64 (chkK [1])), (14, i64 (chkK [4, 1])), (15, .ros ((plnR [1] 3).map i64) ((plnR [1] 3).length) none), (16, i64 (plnE [1] 3)), (17, .ros ((heiR [4]).map n64) ((heiR [4]).length) none), (18, i64 (chkK [4])), (19, .rop [i64 ((leaP (⟨2, [1, 0, 0, 0]⟩ : Pl) [4]).n), .ros (((leaP (⟨2, [1, 0, 0, 0]⟩ : Pl) [4]).ds).map i64) (((leaP (⟨2, [1, 0, 0, 0]⟩ : Pl) [4]).ds).length) none] 0), (20, i64 (leaM (⟨2, [1, 0, 0, 0]⟩ : Pl) [4])), (21, i64 (leaE (⟨2, [1, 0, 0, 0]⟩ : Pl) [4]))]) (H' := []) ⟨⟨_, rfl, rfl⟩, ⟨_, rfl, rfl⟩, ⟨_, rfl, rfl⟩, ⟨_, rfl, rfl⟩, ⟨_, rfl, rfl⟩, ⟨_, rfl, rfl⟩, ⟨_, rfl, rfl⟩, ⟨_, rfl, rfl⟩, ⟨_, rfl, rfl⟩, ⟨_, rfl, rfl⟩, ⟨_, rfl, rfl⟩, ⟨_, rfl, rfl⟩, ⟨_, rfl, rfl⟩, ⟨_, rfl, rfl⟩, ⟨_, rfl, rfl⟩, ⟨_, rfl, rfl⟩, ⟨_, rfl, rfl⟩, ⟨_, rfl, rfl⟩, ⟨_, rfl, rfl⟩, ⟨_, rfl, rfl⟩, trivial⟩ trivial ?_
  refine W_seq rfl ?_
  refine Wdraw rfl (by kernel_rfl) (by kernel_rfl) ?_
  refine Dv rfl rfl rfl (U_load2 rfl rfl rfl rfl) rfl rfl ?_
  refine Dv rfl rfl rfl (U_load2 rfl rfl rfl rfl) rfl rfl ?_
  refine Dv rfl rfl rfl (U_buildSliceF (by rfl) (by decide) rfl rfl rfl) rfl rfl ?_
  refine Dv rfl rfl rfl (U_call rfl rfl (of_p [1, 4] (some 2)) rfl) rfl rfl ?_
  refine Dv rfl rfl rfl (U_call rfl rfl (alike_p (⟨2, [1, 0, 0, 0]⟩ : Pl) (⟨2, [0, 1, 0, 0]⟩ : Pl) (some 4) (some 4) (by first | assumption | omega | exact Sz.le | (simp; done) | (simp; omega)) (by first | assumption | omega | exact Sz.le | (simp; done) | (simp; omega)) [1, 4] (some 2) (by first | assumption | omega | exact Sz.le | (simp; done) | (simp; omega))) rfl) rfl rfl ?_
  refine Dv rfl rfl rfl (U_move rfl) rfl rfl ?_
  refine Dv rfl rfl rfl (U_extract rfl rfl) rfl rfl ?_
  refine Dv rfl rfl rfl (U_extract rfl rfl) rfl rfl ?_
  refine Dv rfl rfl rfl (U_assign rfl) rfl rfl ?_
  refine Dv rfl rfl rfl (U_assign rfl) rfl rfl ?_
  refine Dr.nil rfl ?_
  refine thenQ_n ?_
  refine W_seq rfl ?_
  refine W_reg rfl ?_
  refine Rv rfl rfl rfl (U_call rfl rfl (circlesA_p 2 1) rfl) rfl rfl ?_
  refine Rv rfl rfl rfl (U_move rfl) rfl rfl ?_
  refine Rv rfl rfl rfl (U_extract rfl rfl) rfl rfl ?_
  refine Rv rfl rfl rfl (U_extract rfl rfl) rfl rfl ?_
  refine Rv rfl rfl rfl (U_assign rfl) rfl rfl ?_
  refine Rv rfl rfl rfl (U_assign rfl) rfl rfl ?_
  refine Re rfl ?_
  refine thenQ_n ?_
  refine W_seq rfl ?_
  refine W_reg rfl ?_
  refine Rv rfl rfl rfl (U_call rfl rfl (circlesA_p 2 2) rfl) rfl rfl ?_
  refine Rv rfl rfl rfl (U_move rfl) rfl rfl ?_
  refine Rv rfl rfl rfl (U_extract rfl rfl) rfl rfl ?_
  refine Rv rfl rfl rfl (U_extract rfl rfl) rfl rfl ?_
  refine Rv rfl rfl rfl (U_assign rfl) rfl rfl ?_
  refine Rv rfl rfl rfl (U_assign rfl) rfl rfl ?_
  refine Re rfl ?_
  refine thenQ_n ?_
  refine W_seq rfl ?_
  refine W_reg rfl ?_
  refine Rv rfl rfl rfl (U_call rfl rfl (circlesA_p 3 1) rfl) rfl rfl ?_
  refine Rv rfl rfl rfl (U_move rfl) rfl rfl ?_
  refine Rv rfl rfl rfl (U_extract rfl rfl) rfl rfl ?_
  refine Rv rfl rfl rfl (U_extract rfl rfl) rfl rfl ?_
  refine Rv rfl rfl rfl (U_assign rfl) rfl rfl ?_
  refine Rv rfl rfl rfl (U_assign rfl) rfl rfl ?_
  refine Re rfl ?_
  refine thenQ_n ?_
  refine W_seq rfl ?_
  refine W_reg rfl ?_
  refine Rv rfl rfl rfl (U_buildSliceF (by rfl) (by decide) rfl rfl rfl) rfl rfl ?_
  refine Rv rfl rfl rfl (U_call rfl rfl (of_p [1, 4] (some 2)) rfl) rfl rfl ?_
  refine Rv rfl rfl rfl (U_call rfl rfl (count_p 2 2 [1, 4] (some 2) (by first | assumption | omega | exact Sz.le | (simp; done) | (simp; omega))) rfl) rfl rfl ?_
  refine Rv rfl rfl rfl (U_move rfl) rfl rfl ?_
  refine Rv rfl rfl rfl (U_extract rfl rfl) rfl rfl ?_
  refine Rv rfl rfl rfl (U_extract rfl rfl) rfl rfl ?_
  refine Rv rfl rfl rfl (U_assign rfl) rfl rfl ?_
  refine Rv rfl rfl rfl (U_assign rfl) rfl rfl ?_
  refine Re rfl ?_
  refine thenQ_n ?_
  refine W_seq rfl ?_
  refine W_reg rfl ?_
  refine Rv rfl rfl rfl (U_buildSliceF (by rfl) (by decide) rfl rfl rfl) rfl rfl ?_
  refine Rv rfl rfl rfl (U_call rfl rfl (of_p [1] (some 1)) rfl) rfl rfl ?_
  refine Rv rfl rfl rfl (U_call rfl rfl (count_p 6 2 [1] (some 1) (by first | assumption | omega | exact Sz.le | (simp; done) | (simp; omega))) rfl) rfl rfl ?_
  refine Rv rfl rfl rfl (U_move rfl) rfl rfl ?_
  refine Rv rfl rfl rfl (U_extract rfl rfl) rfl rfl ?_
  refine Rv rfl rfl rfl (U_extract rfl rfl) rfl rfl ?_
  refine Rv rfl rfl rfl (U_assign rfl) rfl rfl ?_
  refine Rv rfl rfl rfl (U_assign rfl) rfl rfl ?_
  refine Re rfl ?_
  refine thenQ_n ?_
  refine W_seq rfl ?_
  refine Wdraw rfl (by kernel_rfl) (by kernel_rfl) ?_
  refine Dv rfl rfl rfl (U_move rfl) rfl rfl ?_
  refine Dv rfl rfl rfl (U_eqlE (a := (mvE (⟨2, [1, 0, 0, 0]⟩ : Pl) 2)) (b := 0) rfl rfl (by decide +kernel)) rfl rfl ?_
  refine Dv rfl rfl rfl (U_move rfl) rfl rfl ?_
  refine Dv rfl rfl rfl (U_load2 rfl rfl rfl rfl) rfl rfl ?_
  refine Dv rfl rfl rfl (U_buildSliceF (by rfl) (by decide) rfl rfl rfl) rfl rfl ?_
  refine Dv rfl rfl rfl (U_call rfl rfl (square_p 2 [0, 0, 0, 1] (some 4)) rfl) rfl rfl ?_
  refine Dv rfl rfl rfl (U_call rfl rfl (samT_p (mvR (⟨2, [1, 0, 0, 0]⟩ : Pl) 2) (⟨2, [0, 0, 0, 1]⟩ : Pl) none (some 4) (by first | assumption | omega | exact Sz.le | (simp; done) | (simp; omega)) (by first | assumption | omega | exact Sz.le | (simp; done) | (simp; omega)) (by decide +kernel)) rfl) rfl rfl ?_
  refine Dv rfl rfl rfl (U_pick_t rfl rfl) rfl rfl ?_
  refine Dv rfl rfl rfl (U_move rfl) rfl rfl ?_
  refine Dv rfl rfl rfl (U_move rfl) rfl rfl ?_
  refine Dv rfl rfl rfl (U_eqlE (a := (mvE (⟨2, [1, 0, 0, 0]⟩ : Pl) 4)) (b := 0) rfl rfl (by decide +kernel)) rfl rfl ?_
  refine Dv rfl rfl rfl (U_pick_t rfl rfl) rfl rfl ?_
  refine Dv rfl rfl rfl (U_move rfl) rfl rfl ?_
  refine Dv rfl rfl rfl (U_load2 rfl rfl rfl rfl) rfl rfl ?_
  refine Dv rfl rfl rfl (U_load2 rfl rfl rfl rfl) rfl rfl ?_
  refine Dv rfl rfl rfl (U_call rfl rfl (samT_p (mvR (⟨2, [1, 0, 0, 0]⟩ : Pl) 4) (⟨2, [0, 1, 0, 0]⟩ : Pl) none (some 4) (by first | assumption | omega | exact Sz.le | (simp; done) | (simp; omega)) (by first | assumption | omega | exact Sz.le | (simp; done) | (simp; omega)) (by decide +kernel)) rfl) rfl rfl ?_
  refine Dv rfl rfl rfl (U_pick_t rfl rfl) rfl rfl ?_
  refine Dv rfl rfl rfl (U_move rfl) rfl rfl ?_
  refine Dv rfl rfl rfl (U_move rfl) rfl rfl ?_
  refine Dv rfl rfl rfl (U_eqlE (a := (aftE 4 1)) (b := 0) rfl rfl (by decide +kernel)) rfl rfl ?_
  refine Dv rfl rfl rfl (U_pick_t rfl rfl) rfl rfl ?_
  refine Dv rfl rfl rfl (U_move rfl) rfl rfl ?_
  refine Dv rfl rfl rfl (U_move rfl) rfl rfl ?_
  refine Dv rfl rfl rfl (U_eqlE (a := (aftR 4 1)) (b := 5) rfl rfl (by decide +kernel)) rfl rfl ?_
  refine Dv rfl rfl rfl (U_pick_t rfl rfl) rfl rfl ?_
  refine Dv rfl rfl rfl (U_move rfl) rfl rfl ?_
  refine Dv rfl rfl rfl (U_move rfl) rfl rfl ?_
  refine Dv rfl rfl rfl (U_eqlE (a := (invE 5)) (b := 0) rfl rfl (by decide +kernel)) rfl rfl ?_
  refine Dv rfl rfl rfl (U_pick_t rfl rfl) rfl rfl ?_
  refine Dv rfl rfl rfl (U_move rfl) rfl rfl ?_
  refine Dv rfl rfl rfl (U_move rfl) rfl rfl ?_
  refine Dv rfl rfl rfl (U_eqlE (a := (invR 5)) (b := 5) rfl rfl (by decide +kernel)) rfl rfl ?_
  refine Dv rfl rfl rfl (U_pick_t rfl rfl) rfl rfl ?_
  refine Dv rfl rfl rfl (U_move rfl) rfl rfl ?_
  refine Dv rfl rfl rfl (U_move rfl) rfl rfl ?_
  refine Dv rfl rfl rfl (U_eqlE (a := (chkK [1])) (b := 0) rfl rfl (by decide +kernel)) rfl rfl ?_
  refine Dv rfl rfl rfl (U_pick_t rfl rfl) rfl rfl ?_
  refine Dv rfl rfl rfl (U_move rfl) rfl rfl ?_
  refine Dv rfl rfl rfl (U_move rfl) rfl rfl ?_
  refine Dv rfl rfl rfl (U_buildSliceF (by rfl) (by decide) rfl rfl rfl) rfl rfl ?_
  refine Dv rfl rfl rfl (U_call rfl rfl (of_p [0, 1, 2, 3] (some 4)) rfl) rfl rfl ?_
  refine Dv rfl rfl rfl (U_call rfl rfl (intsT_p (reaR [1]) [0, 1, 2, 3] none (some 4) (by first | assumption | omega | exact Sz.le | (simp; done) | (simp; omega)) (by first | assumption | omega | exact Sz.le | (simp; done) | (simp; omega)) (by decide +kernel)) rfl) rfl rfl ?_
  refine Dv rfl rfl rfl (U_pick_t rfl rfl) rfl rfl ?_
  refine Dv rfl rfl rfl (U_move rfl) rfl rfl ?_
  refine Dv rfl rfl rfl (U_move rfl) rfl rfl ?_
  refine Dv rfl rfl rfl (U_eqlE (a := (chkK [4, 1])) (b := 3) rfl rfl (by decide +kernel)) rfl rfl ?_
  refine Dv rfl rfl rfl (U_pick_t rfl rfl) rfl rfl ?_
  refine Dv rfl rfl rfl (U_move rfl) rfl rfl ?_
  refine Dv rfl rfl rfl (U_move rfl) rfl rfl ?_
  refine Dv rfl rfl rfl (U_eqlE (a := (plnE [1] 3)) (b := 0) rfl rfl (by decide +kernel)) rfl rfl ?_
  refine Dv rfl rfl rfl (U_pick_t rfl rfl) rfl rfl ?_
  refine Dv rfl rfl rfl (U_move rfl) rfl rfl ?_
  refine Dv rfl rfl rfl (U_move rfl) rfl rfl ?_
  refine Dv rfl rfl rfl (U_buildSliceF (by rfl) (by decide) rfl rfl rfl) rfl rfl ?_
  refine Dv rfl rfl rfl (U_call rfl rfl (of_p [1, 1, 1] (some 3)) rfl) rfl rfl ?_
  refine Dv rfl rfl rfl (U_call rfl rfl (intsT_p (plnR [1] 3) [1, 1, 1] none (some 3) (by first | assumption | omega | exact Sz.le | (simp; done) | (simp; omega)) (by first | assumption | omega | exact Sz.le | (simp; done) | (simp; omega)) (by decide +kernel)) rfl) rfl rfl ?_
  refine Dv rfl rfl rfl (U_pick_t rfl rfl) rfl rfl ?_
  refine Dv rfl rfl rfl (U_move rfl) rfl rfl ?_
  refine Dv rfl rfl rfl (U_move rfl) rfl rfl ?_
  refine Dv rfl rfl rfl (U_eqlE (a := (chkK [4])) (b := 0) rfl rfl (by decide +kernel)) rfl rfl ?_
  refine Dv rfl rfl rfl (U_pick_t rfl rfl) rfl rfl ?_
  refine Dv rfl rfl rfl (U_move rfl) rfl rfl ?_
  refine Dv rfl rfl rfl (U_move rfl) rfl rfl ?_
  refine Dv rfl rfl rfl (U_buildSliceF (by rfl) (by decide) rfl rfl rfl) rfl rfl ?_
  refine Dv rfl rfl rfl (U_call rfl rfl (of_p [0, 20, 20, 20, 1, 20, 20, 20] (some 8)) rfl) rfl rfl ?_
  refine Dv rfl rfl rfl (U_call rfl rfl (intsMT_p (heiR [4]) [0, 20, 20, 20, 1, 20, 20, 20] none (some 8) (by first | assumption | omega | exact Sz.le | (simp; done) | (simp; omega)) (by first | assumption | omega | exact Sz.le | (simp; done) | (simp; omega)) (by decide +kernel)) rfl) rfl rfl ?_
  refine Dv rfl rfl rfl (U_pick_t rfl rfl) rfl rfl ?_
  refine Dv rfl rfl rfl (U_move rfl) rfl rfl ?_
  refine Dv rfl rfl rfl (U_move rfl) rfl rfl ?_
  refine Dv rfl rfl rfl (U_eqlE (a := (leaE (⟨2, [1, 0, 0, 0]⟩ : Pl) [4])) (b := 0) rfl rfl (by decide +kernel)) rfl rfl ?_
  refine Dv rfl rfl rfl (U_pick_t rfl rfl) rfl rfl ?_
  refine Dv rfl rfl rfl (U_move rfl) rfl rfl ?_
  refine Dv rfl rfl rfl (U_load2 rfl rfl rfl rfl) rfl rfl ?_
  refine Dv rfl rfl rfl (U_load2 rfl rfl rfl rfl) rfl rfl ?_
  refine Dv rfl rfl rfl (U_call rfl rfl (samT_p (leaP (⟨2, [1, 0, 0, 0]⟩ : Pl) [4]) (⟨2, [0, 1, 0, 0]⟩ : Pl) none (some 4) (by first | assumption | omega | exact Sz.le | (simp; done) | (simp; omega)) (by first | assumption | omega | exact Sz.le | (simp; done) | (simp; omega)) (by decide +kernel)) rfl) rfl rfl ?_
  refine Dv rfl rfl rfl (U_pick_t rfl rfl) rfl rfl ?_
  refine Dv rfl rfl rfl (U_move rfl) rfl rfl ?_
  refine Dv rfl rfl rfl (U_move rfl) rfl rfl ?_
  refine Dv rfl rfl rfl (U_eqlE (a := (leaM (⟨2, [1, 0, 0, 0]⟩ : Pl) [4])) (b := 4) rfl rfl (by decide +kernel)) rfl rfl ?_
  refine Dv rfl rfl rfl (U_pick_t rfl rfl) rfl rfl ?_
  refine Dv rfl rfl rfl (U_move rfl) rfl rfl ?_
  refine Dv rfl rfl rfl (U_move rfl) rfl rfl ?_
  refine Dv rfl rfl rfl (U_eqlE (a := (alkE (⟨2, [1, 0, 0, 0]⟩ : Pl) (⟨2, [0, 1, 0, 0]⟩ : Pl) [1, 4])) (b := 0) rfl rfl (by decide +kernel)) rfl rfl ?_
  refine Dv rfl rfl rfl (U_pick_t rfl rfl) rfl rfl ?_
  refine Dv rfl rfl rfl (U_move rfl) rfl rfl ?_
  refine Dv rfl rfl rfl (U_move rfl) rfl rfl ?_
  refine Dv rfl rfl rfl (U_eqlE (a := (alkM (⟨2, [1, 0, 0, 0]⟩ : Pl) (⟨2, [0, 1, 0, 0]⟩ : Pl) [1, 4])) (b := 1) rfl rfl (by decide +kernel)) rfl rfl ?_
  refine Dv rfl rfl rfl (U_pick_t rfl rfl) rfl rfl ?_
  refine Dv rfl rfl rfl (U_move rfl) rfl rfl ?_
  refine Dv rfl rfl rfl (U_move rfl) rfl rfl ?_
  refine Dv rfl rfl rfl (U_eqlE (a := (ciE 2 1)) (b := 0) rfl rfl (by decide +kernel)) rfl rfl ?_
  refine Dv rfl rfl rfl (U_pick_t rfl rfl) rfl rfl ?_
  refine Dv rfl rfl rfl (U_move rfl) rfl rfl ?_
  refine Dv rfl rfl rfl (U_move rfl) rfl rfl ?_
  refine Dv rfl rfl rfl (U_eqlE (a := ((ciR 2 1 : Nat) : Int)) (b := 1) rfl rfl (by decide +kernel)) rfl rfl ?_
  refine Dv rfl rfl rfl (U_pick_t rfl rfl) rfl rfl ?_
  refine Dv rfl rfl rfl (U_move rfl) rfl rfl ?_
  refine Dv rfl rfl rfl (U_move rfl) rfl rfl ?_
  refine Dv rfl rfl rfl (U_eqlE (a := (ciE 2 2)) (b := 0) rfl rfl (by decide +kernel)) rfl rfl ?_
  refine Dv rfl rfl rfl (U_pick_t rfl rfl) rfl rfl ?_
  refine Dv rfl rfl rfl (U_move rfl) rfl rfl ?_
  refine Dv rfl rfl rfl (U_move rfl) rfl rfl ?_
  refine Dv rfl rfl rfl (U_eqlE (a := ((ciR 2 2 : Nat) : Int)) (b := 2) rfl rfl (by decide +kernel)) rfl rfl ?_
  refine Dv rfl rfl rfl (U_pick_t rfl rfl) rfl rfl ?_
  refine Dv rfl rfl rfl (U_move rfl) rfl rfl ?_
  refine Dv rfl rfl rfl (U_move rfl) rfl rfl ?_
  refine Dv rfl rfl rfl (U_eqlE (a := (ciE 3 1)) (b := 0) rfl rfl (by decide +kernel)) rfl rfl ?_
  refine Dv rfl rfl rfl (U_pick_t rfl rfl) rfl rfl ?_
  refine Dv rfl rfl rfl (U_move rfl) rfl rfl ?_
  refine Dv rfl rfl rfl (U_move rfl) rfl rfl ?_
  refine Dv rfl rfl rfl (U_eqlE (a := ((ciR 3 1 : Nat) : Int)) (b := 3) rfl rfl (by decide +kernel)) rfl rfl ?_
  refine Dv rfl rfl rfl (U_pick_t rfl rfl) rfl rfl ?_
  refine Dv rfl rfl rfl (U_move rfl) rfl rfl ?_
  refine Dv rfl rfl rfl (U_move rfl) rfl rfl ?_
  refine Dv rfl rfl rfl (U_eqlE (a := (cntE 2 2 [1, 4])) (b := 0) rfl rfl (by decide +kernel)) rfl rfl ?_
  refine Dv rfl rfl rfl (U_pick_t rfl rfl) rfl rfl ?_
  refine Dv rfl rfl rfl (U_move rfl) rfl rfl ?_
  refine Dv rfl rfl rfl (U_move rfl) rfl rfl ?_
  refine Dv rfl rfl rfl (U_eqlE (a := (cntR 2 2 [1, 4])) (b := 6) rfl rfl (by decide +kernel)) rfl rfl ?_
  refine Dv rfl rfl rfl (U_pick_t rfl rfl) rfl rfl ?_
  refine Dv rfl rfl rfl (U_move rfl) rfl rfl ?_
  refine Dv rfl rfl rfl (U_move rfl) rfl rfl ?_
  refine Dv rfl rfl rfl (U_eqlE (a := (cntE 6 2 [1])) (b := 4) rfl rfl (by decide +kernel)) rfl rfl ?_
  refine Dv rfl rfl rfl (U_pick_t rfl rfl) rfl rfl ?_
  refine Dv rfl rfl rfl (U_move rfl) rfl rfl ?_
  refine Dv rfl rfl rfl (U_call rfl rfl (works_p) rfl) rfl rfl ?_
  refine Dv rfl rfl rfl (U_pick_t rfl rfl) rfl rfl ?_
  refine Dv rfl rfl rfl (U_assign rfl) rfl rfl ?_
  refine Dr.nil rfl ?_
  refine thenQ_n ?_
  refine W_ret rfl ?_
  exact retL (rlT rfl rl0) rfl rfl
end Go.Proofs.Ythoodfiacfmhgaa
end
