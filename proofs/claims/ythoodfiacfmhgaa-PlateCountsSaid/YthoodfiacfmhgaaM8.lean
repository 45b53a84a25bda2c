import Derived.Test.YthoodfiacfmhgaaM7
import Derived.Test.YthoodfiacfmhgaaM4
import Derived.KernelRfl
set_option linter.all false
section
/- Contracts of package plate: the plans of the reference. -/
namespace Go.Proofs.Ythoodfiacfmhgaa
set_option maxRecDepth 20000
open Go.AE
abbrev listA (l : List Int) : AV := intsA l none
abbrev listsA (l : List (List Int)) (c : Option Nat) : AV := .ros (l.map listA) l.length c
theorem cplR_in {ks pl : List Int} : 0 ≤ cplR ks pl ∧ cplR ks pl < 8 := by
  unfold cplR
  split
  · rename_i h
    have hc : chkK ks = 0 := by
      unfold cplE at h; split at h
      · rename_i h1; exact absurd h h1
      · rename_i h1; exact Decidable.not_not.1 h1
    refine fold_in (fun x hx => by have := okK_get (chkK_ok hc) x hx; omega) pl (by omega) (cpl_mem ?_)
    unfold cplE at h
    rw [if_neg (by simpa using hc)] at h
    split at h
    · cases h
    · split at h
      · cases h
      · rename_i h3; simpa using h3
  · omega
theorem aft_rst_all : (motions.all fun m => motions.all fun mo => motions.all fun r => decide (aft m r = mo ↔ r = rst m mo)) = true := by decide +kernel
theorem aft_rst {m mo r : Int} (hm : 0 ≤ m ∧ m < 8) (h2 : 0 ≤ mo ∧ mo < 8) (hr : 0 ≤ r ∧ r < 8) : aft m r = mo ↔ r = rst m mo := by
  have := aft_rst_all
  simp only [List.all_eq_true, decide_eq_true_eq] at this
  exact this m (mo_mem hm) mo (mo_mem h2) r (mo_mem hr)
/-- Whether a plan leaves as much to do as it should. -/
noncomputable def kpB (ks : List Int) (h : List Nat) (mo : Int) (l : Int) (p : List Int) : Bool := decide (((geN h (rst (cplR ks p) mo).toNat : Nat) : Int) = l)
noncomputable def somQ (ks : List Int) (h : List Nat) (mo : Int) (l : Int) (P : List (List Int)) : List (List Int) := P.filter (kpB ks h mo l)
/-- One plan, looked at as far as a motion. -/
noncomputable def somP (ks : List Int) (h : List Nat) (mo : Int) (l : Int) (p : List Int) (r : Nat) : List (List Int) := if rst (cplR ks p) mo < r ∧ kpB ks h mo l p = true then [p] else []
theorem somP_0 {ks : List Int} {h : List Nat} {mo l : Int} {p : List Int} (h2 : 0 ≤ mo ∧ mo < 8) : somP ks h mo l p 0 = [] := if_neg fun h3 => by have := rst_in (cplR_in (ks := ks) (pl := p)) h2; omega
theorem somP_8 {ks : List Int} {h : List Nat} {mo l : Int} {p : List Int} (h2 : 0 ≤ mo ∧ mo < 8) {r : Nat} (hr : 8 ≤ r) : somP ks h mo l p r = if kpB ks h mo l p = true then [p] else [] := by
  have := rst_in (cplR_in (ks := ks) (pl := p)) h2
  unfold somP
  split
  · rename_i h3; rw [if_pos h3.2]
  · rename_i h3; rw [if_neg fun h4 => h3 ⟨by omega, h4⟩]
theorem somP_t {ks : List Int} {h : List Nat} {mo l : Int} {p : List Int} (h2 : 0 ≤ mo ∧ mo < 8) {r : Nat} (hr : r < 8) (h3 : aft (cplR ks p) r = mo) (h4 : ((geN h r : Nat) : Int) = l) : somP ks h mo l p r = [] ∧ somP ks h mo l p (r + 1) = [p] := by
  have h5 := (aft_rst (cplR_in (ks := ks) (pl := p)) h2 (by omega)).1 h3
  exact ⟨if_neg fun h6 => by omega, if_pos ⟨by omega, by unfold kpB; rw [← h5]; simpa using h4⟩⟩
theorem somP_f {ks : List Int} {h : List Nat} {mo l : Int} {p : List Int} (h2 : 0 ≤ mo ∧ mo < 8) {r : Nat} (hr : r < 8) (h3 : ¬ (aft (cplR ks p) r = mo ∧ ((geN h r : Nat) : Int) = l)) : somP ks h mo l p (r + 1) = somP ks h mo l p r := by
  unfold somP
  by_cases h6 : rst (cplR ks p) mo = r
  · have h7 : aft (cplR ks p) r = mo := (aft_rst (cplR_in (ks := ks) (pl := p)) h2 (by omega)).2 h6.symm
    have h8 : ¬ kpB ks h mo l p = true := by unfold kpB; rw [h6]; simpa using fun h9 => h3 ⟨h7, h9⟩
    rw [if_neg fun h9 => h8 h9.2, if_neg fun h9 => h8 h9.2]
  · have : rst (cplR ks p) mo < ((r + 1 : Nat) : Int) ↔ rst (cplR ks p) mo < r := by omega
    simp only [this]
theorem somQ_snoc {ks : List Int} {h : List Nat} {mo l : Int} {P : List (List Int)} {i : Nat} (hi : i < P.length) : somQ ks h mo l (P.take (i + 1)) = somQ ks h mo l (P.take i) ++ if kpB ks h mo l P[i] = true then [P[i]] else [] := by
  rw [somQ, List.take_succ_eq_append_getElem hi, List.filter_append, somQ]
  congr 1
  split
  · rename_i h1; rw [List.filter_cons_of_pos h1]; rfl
  · rename_i h1; rw [List.filter_cons_of_neg h1]; rfl
theorem somQ_len {ks : List Int} {h : List Nat} {mo l : Int} {P : List (List Int)} : (somQ ks h mo l P).length ≤ P.length := List.length_filter_le _ _
theorem somP_len {ks : List Int} {h : List Nat} {mo l : Int} {p : List Int} {r : Nat} : (somP ks h mo l p r).length ≤ 1 := by unfold somP; split <;> simp
theorem some_p (ks : List Int) (c : Option Nat) (hl : ks.length ≤ 1000000) (P : List (List Int)) (d : Option Nat) (hP : P.length ≤ 900000) (hPl : ∀ p ∈ P, p.length ≤ 20) (h : List Nat) (hh : HOk h) (mo l : Int) (hmo : 0 ≤ mo ∧ mo < 8) : Pure Try.prog 80 [intsA ks c, listsA P d, .ros (h.map n64) 8 (some 8), i64 mo, i64 l] (listsA (somQ ks h mo l P) none) := by
  have h8 := hh.len
  refine pure_of_body Try.func80 (c := body Try.f80) rfl (by simp [Try.ntmps80]) fun w0 Φ0 => ?_
  refine W_seq rfl ?_
  refine W_reg rfl ?_
  refine Rv rfl rfl rfl (U_assign rfl) rfl rfl ?_
  refine Re rfl ?_
  refine thenQ_n ?_
  refine W_seq rfl ?_
  refine W_reg rfl ?_
  refine Rv rfl rfl rfl (U_assign rfl) rfl rfl ?_
  refine Re rfl ?_
  refine thenQ_n ?_
  refine W_seq rfl ?_
  refine W_seq rfl ?_
  refine W_reg rfl ?_
  refine Rv rfl rfl rfl (U_assign rfl) rfl rfl ?_
  refine Re rfl ?_
  refine thenQ_n ?_
  refine W_block rfl ?_
  refine LoopTo (T' := [(0, .ros (ks.map i64) ks.length c), (1, .ros (P.map listA) P.length d), (2, .ros (h.map n64) 8 (some 8)), (3, i64 mo), (4, i64 l), (11, .out 0 [].length 1), (12, i64 ((0 : Nat) : Int))]) (H' := [(0, outB ([].map listA) 22 [].length)]) (n := 1) rfl (fun mz_ qz_ => ∃ (k : Nat) (o : List (List Int)), k ≤ P.length ∧ o = somQ ks h mo l (P.take k) ∧ mz_ = P.length - k ∧ qz_ = ⟨[(0, .ros (ks.map i64) ks.length c), (1, .ros (P.map listA) P.length d), (2, .ros (h.map n64) 8 (some 8)), (3, i64 mo), (4, i64 l), (11, .out 0 o.length 1), (12, i64 ((k : Nat) : Int))], [(0, outB (o.map listA) 22 o.length)], 1, []⟩) ⟨0, [], (by omega), (by simp [somQ]), rfl, rfl⟩ id ⟨eD rfl rfl, eD rfl rfl, eD rfl rfl, eD rfl rfl, eD rfl rfl, eW rfl le_nils_out rfl, eD rfl rfl, trivial⟩ ⟨rO0 rfl, trivial⟩ rfl rfl rfl rfl (fun _ _ => rfl) ?_
  rintro _ _ ⟨k, o, hi0_0, hi0_1, rfl, rfl⟩
  have hol : o.length ≤ k := by rw [hi0_1]; exact Nat.le_trans somQ_len (by simp; omega)
  refine W_seq rfl ?_
  refine W_seq rfl ?_
  refine W_reg rfl ?_
  refine Rv rfl rfl rfl (U_move rfl) rfl rfl ?_
  refine Rv rfl rfl rfl (U_move rfl) rfl rfl ?_
  refine Rv rfl rfl rfl (U_lenOf rfl len_ros) rfl rfl ?_
  refine Rv rfl rfl rfl (U_lss rfl rfl) rfl rfl ?_
  refine Re rfl ?_
  refine thenQ_n ?_
  refine WcondP rfl rfl (fun hc0 => ?_) (fun hc0 => ?_)
  · have hck : k < P.length := by omega
    have hpl := hPl _ (List.getElem_mem hck)
    refine W_skip rfl ?_
    refine thenQ_n ?_
    refine W_seq rfl ?_
    refine W_block rfl ?_
    refine W_seq rfl ?_
    refine W_reg rfl ?_
    refine Rv rfl rfl rfl (U_move rfl) rfl rfl ?_
    refine Rv rfl rfl rfl (U_move rfl) rfl rfl ?_
    refine Rv rfl rfl rfl (U_move rfl) rfl rfl ?_
    have hx1 : k < P.length := by omega
    refine Rv rfl rfl rfl (U_indexR (j := k) rfl rfl rfl hx1) rfl rfl ?_
    refine Rv rfl rfl rfl (U_load1 rfl rfl (getM hx1)) rfl rfl ?_
    refine Rv rfl rfl rfl (U_call rfl rfl (checkPlanR_p ks c (by first | assumption | omega | (simp; done)) P[k] none (by first | assumption | omega | (simp; done))) rfl) rfl rfl ?_
    refine Rv rfl rfl rfl (U_move rfl) rfl rfl ?_
    refine Rv rfl rfl rfl (U_extract rfl rfl) rfl rfl ?_
    refine Rv rfl rfl rfl (U_extract rfl rfl) rfl rfl ?_
    refine Rv rfl rfl rfl (U_assign rfl) rfl rfl ?_
    refine Rv rfl rfl rfl (U_assign rfl) rfl rfl ?_
    refine Re rfl ?_
    refine thenQ_n ?_
    refine W_seq rfl ?_
    refine W_reg rfl ?_
    refine Rv rfl rfl rfl (U_assign rfl) rfl rfl ?_
    refine Re rfl ?_
    refine thenQ_n ?_
    refine W_block rfl ?_
    refine LoopTo (T' := [(0, .ros (ks.map i64) ks.length c), (1, .ros (P.map listA) P.length d), (2, .ros (h.map n64) 8 (some 8)), (3, i64 mo), (4, i64 l), (11, .out 0 o.length 1), (12, i64 ((k : Nat) : Int)), (13, i64 (cplR ks P[k])), (15, i64 ((0 : Nat) : Int))]) (H' := [(0, outB (o.map listA) 22 o.length)]) (n := 1) rfl (fun mz_ qz_ => ∃ (r : Nat) (o2 : List (List Int)), r ≤ 8 ∧ o2 = o ++ somP ks h mo l P[k] r ∧ mz_ = 8 - r ∧ qz_ = ⟨[(0, .ros (ks.map i64) ks.length c), (1, .ros (P.map listA) P.length d), (2, .ros (h.map n64) 8 (some 8)), (3, i64 mo), (4, i64 l), (11, .out 0 o2.length 1), (12, i64 ((k : Nat) : Int)), (13, i64 (cplR ks P[k])), (15, i64 ((r : Nat) : Int))], [(0, outB (o2.map listA) 22 o2.length)], 1, []⟩) ⟨0, o, (by omega), (by rw [somP_0 hmo]; simp), rfl, rfl⟩ id ⟨eD rfl rfl, eD rfl rfl, eD rfl rfl, eD rfl rfl, eD rfl rfl, e_ rfl rfl, eD rfl rfl, eD rfl rfl, eD rfl rfl, trivial⟩ ⟨rO (mapD (fun _ => rfl) _) rfl rfl, trivial⟩ rfl rfl rfl rfl (fun _ _ => rfl) ?_
    rintro _ _ ⟨r, o2, hi1_0, hi1_1, rfl, rfl⟩
    have hol2 : o2.length ≤ o.length + 1 := by rw [hi1_1, List.length_append]; have := somP_len (ks := ks) (h := h) (mo := mo) (l := l) (p := P[k]) (r := r); omega
    refine W_seq rfl ?_
    refine W_seq rfl ?_
    refine W_reg rfl ?_
    refine Rv rfl rfl rfl (U_move rfl) rfl rfl ?_
    refine Rv rfl rfl rfl (U_lss rfl rfl) rfl rfl ?_
    refine Re rfl ?_
    refine thenQ_n ?_
    refine WcondP rfl rfl (fun hc1 => ?_) (fun hc1 => ?_)
    · have hcr : r < 8 := by omega
      have hcm := cplR_in (ks := ks) (pl := P[k])
      refine W_skip rfl ?_
      refine thenQ_n ?_
      refine W_seq rfl ?_
      refine W_block rfl ?_
      refine W_seq rfl ?_
      refine Wjoin ⟨[(0, .ros (ks.map i64) ks.length c), (1, .ros (P.map listA) P.length d), (2, .ros (h.map n64) 8 (some 8)), (3, i64 mo), (4, i64 l), (11, .out 0 o2.length 1), (12, i64 ((k : Nat) : Int)), (13, i64 (cplR ks P[k])), (15, i64 ((r : Nat) : Int)), (47, .bool ((decide ((aft (cplR ks P[k]) ((r : Nat) : Int)) = mo)) && (decide (((h[r] : Nat) : Int) = l))))], [(0, outB (o2.map listA) 22 o2.length)], 1, []⟩ ?_ ?_
      · refine W_reg rfl ?_
        refine Rv rfl rfl rfl (U_move rfl) rfl rfl ?_
        refine Rv rfl rfl rfl (U_move rfl) rfl rfl ?_
        refine Rv rfl rfl rfl (U_call rfl rfl (afterR_p (cplR ks P[k]) ((r : Nat) : Int) (by first | assumption | omega) (by first | assumption | omega)) rfl) rfl rfl ?_
        refine Rv rfl rfl rfl (U_move rfl) rfl rfl ?_
        refine Rv rfl rfl rfl (U_eql rfl rfl) rfl rfl ?_
        refine Rv rfl rfl rfl (U_move rfl) rfl rfl ?_
        refine Rsplit (t := 40) rfl (fun hg2 => ?_) (fun hg2 => ?_)
        · rw [hg2]
          have hg2' : (aft (cplR ks P[k]) ((r : Nat) : Int)) = mo := of_decide_eq_true hg2
          refine Rv rfl rfl rfl (U_move rfl) rfl rfl ?_
          refine Rv rfl rfl rfl (U_move rfl) rfl rfl ?_
          have hx3 : r < h.length := by omega
          refine Rv rfl rfl rfl (U_indexR (j := r) rfl rfl rfl (by omega)) rfl rfl ?_
          refine Rv rfl rfl rfl (U_load1 rfl rfl (getM hx3)) rfl rfl ?_
          refine Rv rfl rfl rfl (U_move rfl) rfl rfl ?_
          refine Rv rfl rfl rfl (U_eql rfl rfl) rfl rfl ?_
          refine Rv rfl rfl rfl (U_pick_t rfl rfl) rfl rfl ?_
          refine Re rfl ?_
          exact joinTo id ⟨eD rfl rfl, eD rfl rfl, eD rfl rfl, eD rfl rfl, eD rfl rfl, e_ rfl rfl, eD rfl rfl, eD rfl rfl, eD rfl rfl, eD rfl rfl, trivial⟩ ⟨rO (mapD (fun _ => rfl) _) rfl rfl, trivial⟩ rfl rfl rfl rfl (fun _ _ => rfl)
        · rw [hg2]
          have hg2' : ¬ ((aft (cplR ks P[k]) ((r : Nat) : Int)) = mo) := of_decide_eq_false hg2
          refine Rs rfl rfl rfl rfl rfl ?_
          refine Rs rfl rfl rfl rfl rfl ?_
          refine Rs rfl rfl rfl rfl rfl ?_
          refine Rs rfl rfl rfl rfl rfl ?_
          refine Rs rfl rfl rfl rfl rfl ?_
          refine Rs rfl rfl rfl rfl rfl ?_
          refine Rv rfl rfl rfl (U_pick_f rfl rfl) rfl rfl ?_
          refine Re rfl ?_
          exact joinTo id ⟨eD rfl rfl, eD rfl rfl, eD rfl rfl, eD rfl rfl, eD rfl rfl, e_ rfl rfl, eD rfl rfl, eD rfl rfl, eD rfl rfl, eD rfl rfl, trivial⟩ ⟨rO (mapD (fun _ => rfl) _) rfl rfl, trivial⟩ rfl rfl rfl rfl (fun _ _ => rfl)
      refine thenQ_n ?_
      refine Wcond rfl rfl (fun hc2 => ?_) (fun hc2 => ?_)
      · have hst := somP_t (ks := ks) (h := h) (l := l) (p := P[k]) hmo hcr (by simp at hc2; exact hc2.1) (by simp at hc2; rw [geN_get (m := r) (by omega)]; exact hc2.2)
        refine W_reg rfl ?_
        refine Rv rfl rfl rfl (U_move rfl) rfl rfl ?_
        refine Rv rfl rfl rfl (U_move rfl) rfl rfl ?_
        refine Rv rfl rfl rfl (U_move rfl) rfl rfl ?_
        have hx4 : k < P.length := by omega
        refine Rv rfl rfl rfl (U_indexR (j := k) rfl rfl rfl hx4) rfl rfl ?_
        refine Rv rfl rfl rfl (U_load1 rfl rfl (getM hx4)) rfl rfl ?_
        refine Rv rfl rfl rfl (U_buildSliceF (by rfl) (by decide) rfl rfl rfl) rfl rfl ?_
        refine Ra rfl rfl rfl (U_appO (b := 0) (m := 0) (cs' := (o2 ++ [P[k]]).map listA) (n' := (o2 ++ [P[k]]).length) rfl rfl (by simp) rfl (map_len1 _) rfl rfl (by omega) (appM _ _) (len1 _ _)) rfl rfl rfl ?_
        refine Rv rfl rfl rfl (U_assign rfl) rfl rfl ?_
        refine Re rfl ?_
        refine blkQ_n ?_
        refine thenQ_n ?_
        refine W_reg rfl ?_
        refine Rv rfl rfl rfl (U_move rfl) rfl rfl ?_
        refine Rv rfl rfl rfl (U_add rfl rfl (w64e (m := ((r + 1 : Nat) : Int)) (by omega) (by omega) (by omega))) rfl rfl ?_
        refine Rv rfl rfl rfl (U_assign rfl) rfl rfl ?_
        refine Re rfl ?_
        refine thenQ_n ?_
        exact againTo (T' := [(0, .ros (ks.map i64) ks.length c), (1, .ros (P.map listA) P.length d), (2, .ros (h.map n64) 8 (some 8)), (3, i64 mo), (4, i64 l), (11, .out 0 (o2 ++ [P[k]]).length 1), (12, i64 ((k : Nat) : Int)), (13, i64 (cplR ks P[k])), (15, i64 (((r + 1) : Nat) : Int))]) (H' := [(0, outB ((o2 ++ [P[k]]).map listA) 22 (o2 ++ [P[k]]).length)]) (n := 1) (8 - (r + 1)) ⟨r + 1, o2 ++ [P[k]], (by omega), (by first | (rw [hsf, ← hi1_1]; done) | (rw [hst.2, hi1_1, hst.1]; simp; done)), rfl, rfl⟩ (by omega) (mapN [1]) ⟨eD rfl rfl, eD rfl rfl, eD rfl rfl, eD rfl rfl, eD rfl rfl, e_ rfl rfl, eD rfl rfl, eD rfl rfl, eD rfl rfl, trivial⟩ ⟨rO (mapD (fun _ => rfl) _) rfl rfl, trivial⟩ rfl rfl rfl rfl (fun _ h => absurd h (Nat.not_lt_zero _))
      · have hc2' := Bool.eq_false_iff.1 hc2
        have hsf := somP_f (ks := ks) (h := h) (l := l) (p := P[k]) hmo hcr (by simp at hc2; rw [geN_get (m := r) (by omega)]; exact fun h9 => hc2 h9.1 h9.2)
        refine W_skip rfl ?_
        refine blkQ_n ?_
        refine thenQ_n ?_
        refine W_reg rfl ?_
        refine Rv rfl rfl rfl (U_move rfl) rfl rfl ?_
        refine Rv rfl rfl rfl (U_add rfl rfl (w64e (m := ((r + 1 : Nat) : Int)) (by omega) (by omega) (by omega))) rfl rfl ?_
        refine Rv rfl rfl rfl (U_assign rfl) rfl rfl ?_
        refine Re rfl ?_
        refine thenQ_n ?_
        exact againTo (T' := [(0, .ros (ks.map i64) ks.length c), (1, .ros (P.map listA) P.length d), (2, .ros (h.map n64) 8 (some 8)), (3, i64 mo), (4, i64 l), (11, .out 0 o2.length 1), (12, i64 ((k : Nat) : Int)), (13, i64 (cplR ks P[k])), (15, i64 (((r + 1) : Nat) : Int))]) (H' := [(0, outB (o2.map listA) 22 o2.length)]) (n := 1) (8 - (r + 1)) ⟨r + 1, o2, (by omega), (by first | (rw [hsf, ← hi1_1]; done) | (rw [hst.2, hi1_1, hst.1]; simp; done)), rfl, rfl⟩ (by omega) id ⟨eD rfl rfl, eD rfl rfl, eD rfl rfl, eD rfl rfl, eD rfl rfl, e_ rfl rfl, eD rfl rfl, eD rfl rfl, eD rfl rfl, trivial⟩ ⟨rO (mapD (fun _ => rfl) _) rfl rfl, trivial⟩ rfl rfl rfl rfl (fun _ _ => rfl)
    · refine W_exit rfl ?_
      refine thenQ_x ?_
      refine thenQ_x ?_
      refine blkQ_x rfl ?_
      refine blkQ_n ?_
      refine thenQ_n ?_
      refine W_reg rfl ?_
      refine Rv rfl rfl rfl (U_move rfl) rfl rfl ?_
      refine Rv rfl rfl rfl (U_add rfl rfl (w64e (m := ((k + 1 : Nat) : Int)) (by omega) (by omega) (by omega))) rfl rfl ?_
      refine Rv rfl rfl rfl (U_assign rfl) rfl rfl ?_
      refine Re rfl ?_
      refine thenQ_n ?_
      exact againTo (T' := [(0, .ros (ks.map i64) ks.length c), (1, .ros (P.map listA) P.length d), (2, .ros (h.map n64) 8 (some 8)), (3, i64 mo), (4, i64 l), (11, .out 0 o2.length 1), (12, i64 (((k + 1) : Nat) : Int))]) (H' := [(0, outB (o2.map listA) 22 o2.length)]) (n := 1) (P.length - (k + 1)) ⟨k + 1, o2, (by omega), (by rw [somQ_snoc hck, ← hi0_1, ← somP_8 hmo (r := r) (by omega), ← hi1_1]), rfl, rfl⟩ (by omega) id ⟨eD rfl rfl, eD rfl rfl, eD rfl rfl, eD rfl rfl, eD rfl rfl, e_ rfl rfl, eD rfl rfl, trivial⟩ ⟨rO (mapD (fun _ => rfl) _) rfl rfl, trivial⟩ rfl rfl rfl rfl (fun _ _ => rfl)
  · refine W_exit rfl ?_
    refine thenQ_x ?_
    refine thenQ_x ?_
    refine blkQ_x rfl ?_
    refine thenQ_n ?_
    refine W_seq rfl ?_
    refine W_reg rfl ?_
    refine Rv rfl rfl rfl (U_move rfl) rfl rfl ?_
    refine Rv rfl rfl rfl (U_assign rfl) rfl rfl ?_
    refine Re rfl ?_
    refine thenQ_n ?_
    refine WfrO 0 (o.map listA) rfl (mapD (fun _ => rfl) _) (T' := [(10, .ros (o.map listA) o.length none)]) (H' := []) ⟨fO rfl, trivial⟩ trivial ?_
    refine W_ret rfl ?_
    exact retL (rlT rfl rl0) (by first | rfl | (simp only [packA]; rw [hi0_1, List.take_of_length_le (by omega)]; first | done | rfl)) rfl
theorem okK_facts : (allK.all fun ks => decide (ks.length ≤ 8) && (List.range 8).all fun m => Nat.ble (geN (heiQ ks) m) 4 || Nat.beq (geN (heiQ ks) m) 20) = true := by decide +kernel
theorem hei_4 {ks : List Int} (h : okK 0 ks = true) {m : Nat} (hm : m < 8) (h2 : geN (heiQ ks) m ≠ 20) : geN (heiQ ks) m ≤ 4 := by
  have := List.all_eq_true.1 okK_facts ks (okK_all h)
  rw [Bool.and_eq_true, List.all_eq_true] at this
  have h3 := this.2 m (List.mem_range.2 hm)
  rw [Bool.or_eq_true] at h3
  rcases h3 with h3 | h3
  · exact Nat.le_of_ble_eq_true h3
  · exact absurd (Nat.eq_of_beq_eq_true h3) h2
theorem desc_all : (allK.all fun ks => (List.range 8).all fun r => Nat.beq (geN (heiQ ks) r) 0 || Nat.beq (geN (heiQ ks) r) 20 || ks.any fun k => Nat.beq (Nat.succ (geN (heiQ ks) (aftN (invM k).toNat r))) (geN (heiQ ks) r)) = true := by decide +kernel
theorem desc {ks : List Int} (h : okK 0 ks = true) {r : Int} (hr : 0 ≤ r ∧ r < 8) (h0 : geN (heiQ ks) r.toNat ≠ 0) (h1 : geN (heiQ ks) r.toNat ≠ 20) : ∃ k ∈ ks, geN (heiQ ks) (aft (invM k) r).toNat + 1 = geN (heiQ ks) r.toNat := by
  have h2 := List.all_eq_true.1 desc_all ks (okK_all h)
  have h3 := List.all_eq_true.1 h2 r.toNat (List.mem_range.2 (by omega))
  rw [Bool.or_eq_true, Bool.or_eq_true] at h3
  rcases h3 with (h3 | h3) | h3
  · exact absurd (Nat.eq_of_beq_eq_true h3) h0
  · exact absurd (Nat.eq_of_beq_eq_true h3) h1
  · obtain ⟨k, hk, h4⟩ := List.any_eq_true.1 h3
    have h5 := Nat.eq_of_beq_eq_true h4
    have hkk := okK_get h k hk
    have hi := inv_in (m := k) (by omega)
    have h6 := aftN_eq hi hr
    have h7 : aftN (invM k).toNat r.toNat = (aft (invM k) r).toNat := by omega
    rw [h7] at h5
    exact ⟨k, hk, h5⟩
theorem rst_aft_all : (motions.all fun a => motions.all fun k => motions.all fun mo => decide (rst (aft a k) mo = aft (invM k) (rst a mo))) = true := by decide +kernel
theorem rst_aft {a k mo : Int} (ha : 0 ≤ a ∧ a < 8) (hk : 0 ≤ k ∧ k < 8) (hm : 0 ≤ mo ∧ mo < 8) : rst (aft a k) mo = aft (invM k) (rst a mo) := by
  have := rst_aft_all
  simp only [List.all_eq_true, decide_eq_true_eq] at this
  exact this a (mo_mem ha) k (mo_mem hk) mo (mo_mem hm)
theorem rst_0_all : (motions.all fun mo => decide (rst 0 mo = mo)) = true := by decide +kernel
theorem find_congr {α : Type} {p q : α → Bool} : ∀ {l : List α}, (∀ x ∈ l, p x = q x) → l.find? p = l.find? q
  | [], _ => rfl
  | a :: l, h => by
    have h1 := h a (by simp)
    have h2 := find_congr (l := l) fun x hx => h x (List.mem_cons_of_mem _ hx)
    rw [List.find?_cons, List.find?_cons, h1, h2]
theorem filter_head {α : Type} {p : α → Bool} {x : α} : ∀ {l : List α}, l.find? p = some x → ∃ t, l.filter p = x :: t
  | [], h => by simp at h
  | a :: l, h => by
    by_cases ha : p a = true
    · rw [List.find?_cons_of_pos ha] at h; cases h; exact ⟨_, List.filter_cons_of_pos ha⟩
    · rw [List.find?_cons_of_neg ha] at h; rw [List.filter_cons_of_neg ha]; exact filter_head h
theorem cplR_ok {ks pl : List Int} (h : chkK ks = 0) (h2 : pl.length ≤ 20) (h3 : ∀ x ∈ pl, x ∈ ks) : cplE ks pl = 0 ∧ cplR ks pl = pl.foldl aft 0 := by
  have : cplE ks pl = 0 := by
    rw [cplE, if_neg (by simpa using h), if_neg (by omega), if_neg]
    rw [cpl_good fun j hj => List.any_eq_true.2 ⟨pl[j], h3 _ (List.getElem_mem hj), by simp⟩]; simp
  exact ⟨this, by rw [cplR, if_pos this]⟩
def lngQ (ks : List Int) (P : List (List Int)) : List (List Int) := P.flatMap fun p => ks.map fun k => p ++ [k]
theorem lngQ_len {ks : List Int} : ∀ {P : List (List Int)}, (lngQ ks P).length = P.length * ks.length
  | [] => by simp [lngQ]
  | p :: P => by
    have := lngQ_len (ks := ks) (P := P)
    unfold lngQ at this ⊢
    rw [List.flatMap_cons, List.length_append, this, List.length_map, List.length_cons, Nat.succ_mul]; omega
theorem lngQ_snoc {ks : List Int} {P : List (List Int)} {i : Nat} (h : i < P.length) : lngQ ks (P.take (i + 1)) = lngQ ks (P.take i) ++ ks.map fun k => P[i] ++ [k] := by
  rw [lngQ, List.take_succ_eq_append_getElem h, List.flatMap_append, lngQ]; simp
theorem map_snoc {ks p : List Int} {q : Nat} (h : q < ks.length) : ((ks.take (q + 1)).map fun k => p ++ [k]) = ((ks.take q).map fun k => p ++ [k]) ++ [p ++ [ks[q]]] := by
  rw [List.take_succ_eq_append_getElem h, List.map_append]; rfl
theorem lngQ_mem {ks : List Int} {P : List (List Int)} {j : Nat} (h : ∀ p ∈ P, p.length = j) : ∀ p ∈ lngQ ks P, p.length = j + 1 := fun p hp => by
  obtain ⟨q, hq, h2⟩ := List.mem_flatMap.1 hp
  obtain ⟨k, _, rfl⟩ := List.mem_map.1 h2
  rw [List.length_append, h q hq]; rfl
/-- The plans of the reference, behind as many steps. -/
noncomputable def stpQ (ks : List Int) (h : List Nat) (mo : Int) (need : Nat) : Nat → List (List Int)
  | 0 => [[]]
  | j + 1 => somQ ks h mo ((need : Int) - j - 1) (lngQ ks (stpQ ks h mo need j))
theorem stp_step {ks : List Int} {mo : Int} {need : Nat} (hok : okK 0 ks = true) (hc : chkK ks = 0) (hmo : 0 ≤ mo ∧ mo < 8) (h4 : geN (heiQ ks) mo.toNat ≤ 4) (hn : need = geN (heiQ ks) mo.toNat) : ∀ j, j ≤ need → ∃ pre tl, stpQ ks (heiQ ks) mo need j = pre :: tl ∧ pre.length = j ∧ (∀ x ∈ pre, x ∈ ks) ∧ geN (heiQ ks) (rst (pre.foldl aft 0) mo).toNat = need - j ∧ planQ ks (heiQ ks) mo need 0 = pre ++ planQ ks (heiQ ks) mo (need - j) (pre.foldl aft 0)
  | 0, _ => ⟨[], [], rfl, rfl, fun x hx => absurd hx List.not_mem_nil, by
      have := List.all_eq_true.1 rst_0_all mo (mo_mem hmo)
      simp only [decide_eq_true_eq] at this
      rw [List.foldl_nil, this, Nat.sub_zero, hn], rfl⟩
  | j + 1, hj => by
    obtain ⟨pre, tl, h1, h2, h3, h5, h6⟩ := stp_step hok hc hmo h4 hn j (by omega)
    have hks : ∀ x ∈ ks, 0 ≤ x ∧ x < 8 := fun x hx => by have := okK_get hok x hx; omega
    have ha := fold_in hks pre (a := 0) (by omega) h3
    have hr := rst_in ha hmo
    obtain ⟨k, hk, hk2⟩ := desc hok hr (by omega) (by omega)
    rw [← rst_aft ha (hks k hk) hmo] at hk2
    have e : need - j = (need - (j + 1)) + 1 := by omega
    have hf : ∃ k0, (ks.find? fun k => decide (geN (heiQ ks) (rst (aft (pre.foldl aft 0) k) mo).toNat = need - (j + 1))) = some k0 := by
      cases hq : ks.find? fun k => decide (geN (heiQ ks) (rst (aft (pre.foldl aft 0) k) mo).toNat = need - (j + 1)) with
      | some k0 => exact ⟨k0, rfl⟩
      | none =>
        have := List.find?_eq_none.1 hq k hk
        simp only [decide_eq_true_eq] at this
        omega
    obtain ⟨k0, hk0⟩ := hf
    have hm0 := List.mem_of_find?_eq_some hk0
    have hp0 : geN (heiQ ks) (rst (aft (pre.foldl aft 0) k0) mo).toNat = need - (j + 1) := by simpa using List.find?_some hk0
    have hcp : ∀ k ∈ ks, cplR ks (pre ++ [k]) = aft (pre.foldl aft 0) k := fun k hk => by
      rw [(cplR_ok hc (by rw [List.length_append]; simp; omega) fun x hx => by rcases List.mem_append.1 hx with hx | hx; exact h3 x hx; rw [List.mem_singleton.1 hx]; exact hk).2, List.foldl_append]; rfl
    have hfl : (ks.map fun k => pre ++ [k]).find? (kpB ks (heiQ ks) mo ((need : Int) - j - 1)) = some (pre ++ [k0]) := by
      rw [List.find?_map]
      have : (ks.find? (kpB ks (heiQ ks) mo ((need : Int) - j - 1) ∘ fun k => pre ++ [k])) = some k0 := by
        rw [← hk0]
        refine find_congr fun k hk => ?_
        simp only [Function.comp, kpB]
        rw [hcp k hk]
        congr 1
        rw [eq_iff_iff]
        omega
      rw [this]; rfl
    obtain ⟨t, ht⟩ := filter_head hfl
    refine ⟨pre ++ [k0], t ++ (lngQ ks tl).filter (kpB ks (heiQ ks) mo ((need : Int) - j - 1)), ?_, ?_, ?_, ?_, ?_⟩
    · rw [stpQ, h1, somQ, lngQ, List.flatMap_cons, List.filter_append, ht]; rfl
    · rw [List.length_append, h2]; rfl
    · intro x hx
      rcases List.mem_append.1 hx with hx | hx
      · exact h3 x hx
      · rw [List.mem_singleton.1 hx]; exact hm0
    · rw [List.foldl_append]; exact hp0
    · rw [h6, e, planQ, hk0, List.foldl_append]; simp
theorem stp_plan {ks : List Int} {mo : Int} (hok : okK 0 ks = true) (hc : chkK ks = 0) (hmo : 0 ≤ mo ∧ mo < 8) (h4 : geN (heiQ ks) mo.toNat ≤ 4) : ∃ tl, stpQ ks (heiQ ks) mo (geN (heiQ ks) mo.toNat) (geN (heiQ ks) mo.toNat) = planQ ks (heiQ ks) mo (geN (heiQ ks) mo.toNat) 0 :: tl := by
  obtain ⟨pre, tl, h1, _, _, _, h6⟩ := stp_step hok hc hmo h4 rfl _ (Nat.le_refl _)
  rw [Nat.sub_self, planQ, List.append_nil] at h6
  exact ⟨tl, by rw [h1, h6]⟩
theorem pow8 {j : Nat} (h : j ≤ 3) : 8 ^ j ≤ 512 := Nat.pow_le_pow_right (n := 8) (by decide) h
theorem planR_p (ks : List Int) (c : Option Nat) (hl : ks.length ≤ 1000000) (mo : Int) : Pure Try.prog 38 [intsA ks c, i64 mo] (.tup [intsA (plnR ks mo) none, i64 (plnE ks mo)]) := by
  refine pure_of_body Try.func38 (c := body Try.f38) rfl (by simp [Try.ntmps38]) fun w0 Φ0 => ?_
  refine W_seq rfl ?_
  refine W_reg rfl ?_
  refine Rv rfl rfl rfl (U_assign rfl) rfl rfl ?_
  refine Rv rfl rfl rfl (U_assign rfl) rfl rfl ?_
  refine Re rfl ?_
  refine thenQ_n ?_
  refine W_seq rfl ?_
  refine W_seq rfl ?_
  refine W_reg rfl ?_
  refine Rv rfl rfl rfl (U_move rfl) rfl rfl ?_
  refine Rv rfl rfl rfl (U_call rfl rfl (chkKR_p ks c (by first | assumption | omega)) rfl) rfl rfl ?_
  refine Rv rfl rfl rfl (U_neq rfl rfl) rfl rfl ?_
  refine Re rfl ?_
  refine thenQ_n ?_
  refine WcondP rfl rfl (fun hc0 => ?_) (fun hc0 => ?_)
  · have hpe : plnE ks mo = chkK ks := by rw [plnE, if_pos hc0]
    rw [plnR, hpe, if_neg hc0]
    refine W_seq rfl ?_
    refine W_reg rfl ?_
    refine Rv rfl rfl rfl (U_move rfl) rfl rfl ?_
    refine Rv rfl rfl rfl (U_call rfl rfl (chkKR_p ks c (by first | assumption | omega)) rfl) rfl rfl ?_
    refine Rv rfl rfl rfl (U_assign rfl) rfl rfl ?_
    refine Rv rfl rfl rfl (U_assign rfl) rfl rfl ?_
    refine Re rfl ?_
    refine thenQ_n ?_
    refine WweakT (j := 4) rfl (le_nils (cs := [])) ?_
    refine W_ret rfl ?_
    refine thenQ_r ?_
    exact retL (rlT rfl (rlT rfl rl0)) (by first | rfl | (simp only [packA]; rw [hPe]; first | done | rfl)) rfl
  · rw [Decidable.not_not] at hc0
    have hok := chkK_ok hc0
    have hkl := okK_len hok
    have hh : HOk (heiQ ks) := heiQ_ok
    have h8 := hh.len
    refine W_skip rfl ?_
    refine thenQ_n ?_
    refine W_seq rfl ?_
    refine W_seq rfl ?_
    refine W_reg rfl ?_
    refine Rv rfl rfl rfl (U_move rfl) rfl rfl ?_
    refine Rv rfl rfl rfl (U_call rfl rfl (isMo_p mo) rfl) rfl rfl ?_
    refine Rv rfl rfl rfl (U_not rfl) rfl rfl ?_
    refine Re rfl ?_
    refine thenQ_n ?_
    refine Wcond rfl rfl (fun hc1 => ?_) (fun hc1 => ?_)
    · have hpe : plnE ks mo = 2 := by rw [plnE, if_neg (by simpa using hc0), if_pos (by simpa using hc1)]
      rw [plnR, hpe, if_neg (by decide)]
      refine W_seq rfl ?_
      refine W_reg rfl ?_
      refine Rv rfl rfl rfl (U_assign rfl) rfl rfl ?_
      refine Rv rfl rfl rfl (U_assign rfl) rfl rfl ?_
      refine Re rfl ?_
      refine thenQ_n ?_
      refine WweakT (j := 4) rfl (le_nils (cs := [])) ?_
      refine W_ret rfl ?_
      refine thenQ_r ?_
      exact retL (rlT rfl (rlT rfl rl0)) (by first | rfl | (simp only [packA]; rw [hPe]; first | done | rfl)) rfl
    · have hc1' := Bool.eq_false_iff.1 hc1
      have him : isMo mo = true := by simpa using hc1
      have hmo := isMo_iff.1 him
      have hge := geN_get (l := heiQ ks) (m := mo.toNat) (by omega)
      refine W_skip rfl ?_
      refine thenQ_n ?_
      refine W_seq rfl ?_
      refine W_reg rfl ?_
      refine Rv rfl rfl rfl (U_move rfl) rfl rfl ?_
      refine Rv rfl rfl rfl (U_call rfl rfl (heightsR_p ks c (by first | assumption | omega) hok) rfl) rfl rfl ?_
      refine Rv rfl rfl rfl (U_assign rfl) rfl rfl ?_
      refine Re rfl ?_
      refine thenQ_n ?_
      refine W_seq rfl ?_
      refine W_reg rfl ?_
      refine Rv rfl rfl rfl (U_move rfl) rfl rfl ?_
      refine Rv rfl rfl rfl (U_move rfl) rfl rfl ?_
      have hx1 : (mo).toNat < (heiQ ks).length := by omega
      refine Rv rfl rfl rfl (U_indexR (j := (mo).toNat) rfl rfl (by omega) (by omega)) rfl rfl ?_
      refine Rv rfl rfl rfl (U_load1 rfl rfl (getM hx1)) rfl rfl ?_
      refine Rv rfl rfl rfl (U_assign rfl) rfl rfl ?_
      refine Re rfl ?_
      refine thenQ_n ?_
      refine W_seq rfl ?_
      refine W_seq rfl ?_
      refine W_reg rfl ?_
      refine Rv rfl rfl rfl (U_move rfl) rfl rfl ?_
      refine Rv rfl rfl rfl (U_eql rfl rfl) rfl rfl ?_
      refine Re rfl ?_
      refine thenQ_n ?_
      refine WcondP rfl rfl (fun hc2 => ?_) (fun hc2 => ?_)
      · have hpe : plnE ks mo = 13 := by rw [plnE, if_neg (by simpa using hc0), if_neg (by simpa using him), if_pos (by omega)]
        rw [plnR, hpe, if_neg (by decide)]
        refine W_seq rfl ?_
        refine W_reg rfl ?_
        refine Rv rfl rfl rfl (U_assign rfl) rfl rfl ?_
        refine Rv rfl rfl rfl (U_assign rfl) rfl rfl ?_
        refine Re rfl ?_
        refine thenQ_n ?_
        refine WweakT (j := 4) rfl (le_nils (cs := [])) ?_
        refine W_ret rfl ?_
        refine thenQ_r ?_
        exact retL (rlT rfl (rlT rfl rl0)) (by first | rfl | (simp only [packA]; rw [hPe]; first | done | rfl)) rfl
      · have hne : geN (heiQ ks) mo.toNat ≠ 20 := by omega
        have h4 := hei_4 hok (by omega) hne
        have hpe : plnE ks mo = 0 := by rw [plnE, if_neg (by simpa using hc0), if_neg (by simpa using him), if_neg hne]
        rw [plnR, hpe, if_pos rfl]
        refine W_skip rfl ?_
        refine thenQ_n ?_
        refine W_seq rfl ?_
        refine W_reg rfl ?_
        refine Rv rfl rfl rfl (U_buildSliceF (by rfl) (by decide) rfl rfl rfl) rfl rfl ?_
        refine Rv rfl rfl rfl (U_assign rfl) rfl rfl ?_
        refine Re rfl ?_
        refine thenQ_n ?_
        refine W_seq rfl ?_
        refine WweakT (j := 8) rfl (le_ros (l' := [listA []]) (leL_cons le_nils (leL_refl _)) rfl) ?_
        refine W_seq rfl ?_
        refine W_reg rfl ?_
        refine Rv rfl rfl rfl (U_assign rfl) rfl rfl ?_
        refine Re rfl ?_
        refine thenQ_n ?_
        refine W_block rfl ?_
        refine LoopTo (T' := [(0, .ros (ks.map i64) ks.length c), (1, i64 mo), (6, .ros ((heiQ ks).map n64) 8 (some 8)), (7, i64 (((heiQ ks)[(mo).toNat] : Nat) : Int)), (8, .ros ([[]].map listA) [[]].length none), (9, i64 ((0 : Nat) : Int))]) (H' := []) (n := 0) rfl (fun mz_ qz_ => ∃ (j : Nat) (P : List (List Int)), j ≤ (geN (heiQ ks) mo.toNat) ∧ P = stpQ ks (heiQ ks) mo (geN (heiQ ks) mo.toNat) j ∧ ((∀ p ∈ P, p.length = j)) ∧ P.length ≤ 8 ^ j ∧ mz_ = (geN (heiQ ks) mo.toNat) - j ∧ qz_ = ⟨[(0, .ros (ks.map i64) ks.length c), (1, i64 mo), (6, .ros ((heiQ ks).map n64) 8 (some 8)), (7, i64 (((heiQ ks)[(mo).toNat] : Nat) : Int)), (8, .ros (P.map listA) P.length none), (9, i64 ((j : Nat) : Int))], [], 0, []⟩) ⟨0, [[]], (by omega), rfl, (by simp), (by simp), rfl, rfl⟩ id ⟨eD rfl rfl, eD rfl rfl, eD rfl rfl, eD rfl rfl, eW rfl le_cap rfl, eD rfl rfl, trivial⟩ trivial rfl rfl rfl rfl (fun _ _ => rfl) ?_
        rintro _ _ ⟨j, P, hi0_0, hi0_1, hi0_2, hi0_3, rfl, rfl⟩
        refine W_seq rfl ?_
        refine W_seq rfl ?_
        refine W_reg rfl ?_
        refine Rv rfl rfl rfl (U_move rfl) rfl rfl ?_
        refine Rv rfl rfl rfl (U_move rfl) rfl rfl ?_
        refine Rv rfl rfl rfl (U_lss rfl rfl) rfl rfl ?_
        refine Re rfl ?_
        refine thenQ_n ?_
        refine WcondP rfl rfl (fun hc3 => ?_) (fun hc3 => ?_)
        · have hcj : j < geN (heiQ ks) mo.toNat := by omega
          have hp8 := pow8 (j := j) (by omega)
          refine W_skip rfl ?_
          refine thenQ_n ?_
          refine W_seq rfl ?_
          refine W_block rfl ?_
          refine W_seq rfl ?_
          refine W_reg rfl ?_
          refine Rv rfl rfl rfl (U_assign rfl) rfl rfl ?_
          refine Re rfl ?_
          refine thenQ_n ?_
          refine W_seq rfl ?_
          refine W_seq rfl ?_
          refine W_reg rfl ?_
          refine Rv rfl rfl rfl (U_assign rfl) rfl rfl ?_
          refine Re rfl ?_
          refine thenQ_n ?_
          refine W_block rfl ?_
          refine LoopTo (T' := [(0, .ros (ks.map i64) ks.length c), (1, i64 mo), (6, .ros ((heiQ ks).map n64) 8 (some 8)), (7, i64 (((heiQ ks)[(mo).toNat] : Nat) : Int)), (8, .ros (P.map listA) P.length none), (9, i64 ((j : Nat) : Int)), (10, .out 0 [].length 1), (11, i64 ((0 : Nat) : Int))]) (H' := [(0, outB ([].map listA) 22 [].length)]) (n := 1) rfl (fun mz_ qz_ => ∃ (i : Nat) (lg : List (List Int)), i ≤ P.length ∧ lg = lngQ ks (P.take i) ∧ mz_ = P.length - i ∧ qz_ = ⟨[(0, .ros (ks.map i64) ks.length c), (1, i64 mo), (6, .ros ((heiQ ks).map n64) 8 (some 8)), (7, i64 (((heiQ ks)[(mo).toNat] : Nat) : Int)), (8, .ros (P.map listA) P.length none), (9, i64 ((j : Nat) : Int)), (10, .out 0 lg.length 1), (11, i64 ((i : Nat) : Int))], [(0, outB (lg.map listA) 22 lg.length)], 1, []⟩) ⟨0, [], (by omega), rfl, rfl, rfl⟩ id ⟨eD rfl rfl, eD rfl rfl, eD rfl rfl, eD rfl rfl, eD rfl rfl, eD rfl rfl, eW rfl le_nils_out rfl, eD rfl rfl, trivial⟩ ⟨rO0 rfl, trivial⟩ rfl rfl rfl rfl (fun _ _ => rfl) ?_
          rintro _ _ ⟨i, lg, hi1_0, hi1_1, rfl, rfl⟩
          have hll : lg.length ≤ P.length * 8 := by rw [hi1_1, lngQ_len]; exact Nat.mul_le_mul (by simp; omega) hkl
          refine W_seq rfl ?_
          refine W_seq rfl ?_
          refine W_reg rfl ?_
          refine Rv rfl rfl rfl (U_move rfl) rfl rfl ?_
          refine Rv rfl rfl rfl (U_move rfl) rfl rfl ?_
          refine Rv rfl rfl rfl (U_lenOf rfl len_ros) rfl rfl ?_
          refine Rv rfl rfl rfl (U_lss rfl rfl) rfl rfl ?_
          refine Re rfl ?_
          refine thenQ_n ?_
          refine WcondP rfl rfl (fun hc4 => ?_) (fun hc4 => ?_)
          · have hci : i < P.length := by omega
            have hpl := hi0_2 _ (List.getElem_mem hci)
            refine W_skip rfl ?_
            refine thenQ_n ?_
            refine W_seq rfl ?_
            refine W_block rfl ?_
            refine W_seq rfl ?_
            refine W_reg rfl ?_
            refine Rv rfl rfl rfl (U_assign rfl) rfl rfl ?_
            refine Re rfl ?_
            refine thenQ_n ?_
            refine W_block rfl ?_
            refine LoopTo (T' := [(0, .ros (ks.map i64) ks.length c), (1, i64 mo), (6, .ros ((heiQ ks).map n64) 8 (some 8)), (7, i64 (((heiQ ks)[(mo).toNat] : Nat) : Int)), (8, .ros (P.map listA) P.length none), (9, i64 ((j : Nat) : Int)), (10, .out 0 lg.length 1), (11, i64 ((i : Nat) : Int)), (12, i64 ((0 : Nat) : Int))]) (H' := [(0, outB (lg.map listA) 22 lg.length)]) (n := 1) rfl (fun mz_ qz_ => ∃ (q : Nat) (lg2 : List (List Int)), q ≤ ks.length ∧ (lg2 = lg ++ (ks.take q).map fun k => P[i] ++ [k]) ∧ mz_ = ks.length - q ∧ qz_ = ⟨[(0, .ros (ks.map i64) ks.length c), (1, i64 mo), (6, .ros ((heiQ ks).map n64) 8 (some 8)), (7, i64 (((heiQ ks)[(mo).toNat] : Nat) : Int)), (8, .ros (P.map listA) P.length none), (9, i64 ((j : Nat) : Int)), (10, .out 0 lg2.length 1), (11, i64 ((i : Nat) : Int)), (12, i64 ((q : Nat) : Int))], [(0, outB (lg2.map listA) 22 lg2.length)], 1, []⟩) ⟨0, lg, (by omega), (by simp), rfl, rfl⟩ id ⟨eD rfl rfl, eD rfl rfl, eD rfl rfl, eD rfl rfl, eD rfl rfl, eD rfl rfl, e_ rfl rfl, eD rfl rfl, eD rfl rfl, trivial⟩ ⟨rO (mapD (fun _ => rfl) _) rfl rfl, trivial⟩ rfl rfl rfl rfl (fun _ _ => rfl) ?_
            rintro _ _ ⟨q, lg2, hi2_0, hi2_1, rfl, rfl⟩
            have hll2 : lg2.length ≤ lg.length + q := by rw [hi2_1, List.length_append, List.length_map, List.length_take]; omega
            refine W_seq rfl ?_
            refine W_seq rfl ?_
            refine W_reg rfl ?_
            refine Rv rfl rfl rfl (U_move rfl) rfl rfl ?_
            refine Rv rfl rfl rfl (U_move rfl) rfl rfl ?_
            refine Rv rfl rfl rfl (U_lenOf rfl len_ros) rfl rfl ?_
            refine Rv rfl rfl rfl (U_lss rfl rfl) rfl rfl ?_
            refine Re rfl ?_
            refine thenQ_n ?_
            refine WcondP rfl rfl (fun hc5 => ?_) (fun hc5 => ?_)
            · have hcq : q < ks.length := by omega
              refine W_skip rfl ?_
              refine thenQ_n ?_
              refine W_seq rfl ?_
              refine W_block rfl ?_
              have hcs : P[i].length = 0 ∨ 0 < P[i].length := by omega
              rcases hcs with hpz | hpz
              · have hpn : P[i] = [] := List.length_eq_zero_iff.1 hpz
                refine Wjoin ⟨[(0, .ros (ks.map i64) ks.length c), (1, i64 mo), (6, .ros ((heiQ ks).map n64) 8 (some 8)), (7, i64 (((heiQ ks)[(mo).toNat] : Nat) : Int)), (8, .ros (P.map listA) P.length none), (9, i64 ((j : Nat) : Int)), (10, .out 2 ((lg2 ++ [P[i] ++ [ks[q]]]).length) 1), (11, i64 ((i : Nat) : Int)), (12, i64 ((q : Nat) : Int))], [(2, outB ((lg2 ++ [P[i] ++ [ks[q]]]).map listA) 22 ((lg2 ++ [P[i] ++ [ks[q]]]).length))], 3, []⟩ ?_ ?_
                · rcases Nat.eq_zero_or_pos lg2.length with hz2 | hz2
                  · refine WdrawL [52, 57] rfl (by kernel_rfl) (by kernel_rfl) ?_
                    refine Dv rfl rfl rfl (U_move rfl) rfl rfl ?_
                    refine Dv rfl rfl rfl (U_buildSliceF (by rfl) (by decide) rfl rfl rfl) rfl rfl ?_
                    refine Dv rfl rfl rfl (U_move rfl) rfl rfl ?_
                    refine Dv rfl rfl rfl (U_move rfl) rfl rfl ?_
                    have hx3 : i < P.length := by omega
                    refine Dv rfl rfl rfl (U_indexR (j := i) rfl rfl rfl hx3) rfl rfl ?_
                    refine Dv rfl rfl rfl (U_load1 rfl rfl (getM hx3)) rfl rfl ?_
                    refine Dv rfl rfl rfl (U_app0G rfl rfl lenk_ros (len0_ros hpz)) rfl rfl ?_
                    refine Dv rfl rfl rfl (U_move rfl) rfl rfl ?_
                    refine Dv rfl rfl rfl (U_move rfl) rfl rfl ?_
                    have hx4 : q < ks.length := by omega
                    refine Dv rfl rfl rfl (U_indexR (j := q) rfl rfl rfl hx4) rfl rfl ?_
                    refine Dv rfl rfl rfl (U_load1 rfl rfl (getM hx4)) rfl rfl ?_
                    refine Dv rfl rfl rfl (U_buildSliceF (by rfl) (by decide) rfl rfl rfl) rfl rfl ?_
                    refine Da rfl rfl rfl (OpU.frz (b := 1) (U_appL (news := [ks[q]].map i64) (n' := [ks[q]].length) rfl rfl rfl rfl rfl (by simp) (by simp) rfl) rfl (by simp) (mapD (fun _ => rfl) _) (Nat.le_refl _) (Nat.lt_succ_self _)) rfl rfl rfl rfl ?_
                    refine Dv rfl rfl rfl (U_buildSliceF (by rfl) (by decide) rfl rfl rfl) rfl rfl ?_
                    refine Da rfl rfl rfl (U_appO0 (b := 0) (cs := (lg2.map listA)) (m := 0) (cs' := (lg2 ++ [P[i] ++ [ks[q]]]).map listA) (n' := (lg2 ++ [P[i] ++ [ks[q]]]).length) rfl hz2 rfl (by simp) (map_len1 _) rfl (by omega) (by rw [hpn]; simp; rfl) (len1 _ _)) rfl rfl rfl rfl ?_
                    refine Dv rfl rfl rfl (U_assign rfl) rfl rfl ?_
                    refine Dr.nil rfl ?_
                    exact joinTo id ⟨eD rfl rfl, eD rfl rfl, eD rfl rfl, eD rfl rfl, eD rfl rfl, eD rfl rfl, e_ rfl rfl, eD rfl rfl, eD rfl rfl, trivial⟩ ⟨rO (mapD (fun _ => rfl) _) rfl rfl, trivial⟩ rfl rfl rfl rfl (fun _ _ => rfl)
                  · refine WdrawL [52, 57] rfl (by kernel_rfl) (by kernel_rfl) ?_
                    refine Dv rfl rfl rfl (U_move rfl) rfl rfl ?_
                    refine Dv rfl rfl rfl (U_buildSliceF (by rfl) (by decide) rfl rfl rfl) rfl rfl ?_
                    refine Dv rfl rfl rfl (U_move rfl) rfl rfl ?_
                    refine Dv rfl rfl rfl (U_move rfl) rfl rfl ?_
                    have hx5 : i < P.length := by omega
                    refine Dv rfl rfl rfl (U_indexR (j := i) rfl rfl rfl hx5) rfl rfl ?_
                    refine Dv rfl rfl rfl (U_load1 rfl rfl (getM hx5)) rfl rfl ?_
                    refine Dv rfl rfl rfl (U_app0G rfl rfl lenk_ros (len0_ros hpz)) rfl rfl ?_
                    refine Dv rfl rfl rfl (U_move rfl) rfl rfl ?_
                    refine Dv rfl rfl rfl (U_move rfl) rfl rfl ?_
                    have hx6 : q < ks.length := by omega
                    refine Dv rfl rfl rfl (U_indexR (j := q) rfl rfl rfl hx6) rfl rfl ?_
                    refine Dv rfl rfl rfl (U_load1 rfl rfl (getM hx6)) rfl rfl ?_
                    refine Dv rfl rfl rfl (U_buildSliceF (by rfl) (by decide) rfl rfl rfl) rfl rfl ?_
                    refine Da rfl rfl rfl (OpU.frz (b := 1) (U_appL (news := [ks[q]].map i64) (n' := [ks[q]].length) rfl rfl rfl rfl rfl (by simp) (by simp) rfl) rfl (by simp) (mapD (fun _ => rfl) _) (Nat.le_refl _) (Nat.lt_succ_self _)) rfl rfl rfl rfl ?_
                    refine Dv rfl rfl rfl (U_buildSliceF (by rfl) (by decide) rfl rfl rfl) rfl rfl ?_
                    refine Da rfl rfl rfl (U_appO (b := 0) (m := 0) (cs' := (lg2 ++ [P[i] ++ [ks[q]]]).map listA) (n' := (lg2 ++ [P[i] ++ [ks[q]]]).length) rfl rfl (by simp) rfl (map_len1 _) rfl rfl (by omega) (by rw [hpn]; simp; rfl) (len1 _ _)) rfl rfl rfl (upsO rfl hz2) ?_
                    refine Dv rfl rfl rfl (U_assign rfl) rfl rfl ?_
                    refine Dr.nil rfl ?_
                    exact joinTo id ⟨eD rfl rfl, eD rfl rfl, eD rfl rfl, eD rfl rfl, eD rfl rfl, eD rfl rfl, e_ rfl rfl, eD rfl rfl, eD rfl rfl, trivial⟩ ⟨rO (mapD (fun _ => rfl) _) rfl rfl, trivial⟩ rfl rfl rfl rfl (fun _ _ => rfl)
                refine blkQ_n ?_
                refine thenQ_n ?_
                refine W_reg rfl ?_
                refine Rv rfl rfl rfl (U_move rfl) rfl rfl ?_
                refine Rv rfl rfl rfl (U_add rfl rfl (w64e (m := ((q + 1 : Nat) : Int)) (by omega) (by omega) (by omega))) rfl rfl ?_
                refine Rv rfl rfl rfl (U_assign rfl) rfl rfl ?_
                refine Re rfl ?_
                refine thenQ_n ?_
                exact againTo (T' := [(0, .ros (ks.map i64) ks.length c), (1, i64 mo), (6, .ros ((heiQ ks).map n64) 8 (some 8)), (7, i64 (((heiQ ks)[(mo).toNat] : Nat) : Int)), (8, .ros (P.map listA) P.length none), (9, i64 ((j : Nat) : Int)), (10, .out 0 (lg2 ++ [P[i] ++ [ks[q]]]).length 1), (11, i64 ((i : Nat) : Int)), (12, i64 (((q + 1) : Nat) : Int))]) (H' := [(0, outB ((lg2 ++ [P[i] ++ [ks[q]]]).map listA) 22 (lg2 ++ [P[i] ++ [ks[q]]]).length)]) (n := 1) (ks.length - (q + 1)) ⟨q + 1, lg2 ++ [P[i] ++ [ks[q]]], (by omega), (by rw [map_snoc hcq, hi2_1, List.append_assoc]), rfl, rfl⟩ (by omega) (mapN [2]) ⟨eD rfl rfl, eD rfl rfl, eD rfl rfl, eD rfl rfl, eD rfl rfl, eD rfl rfl, e_ rfl rfl, eD rfl rfl, eD rfl rfl, trivial⟩ ⟨rO (mapD (fun _ => rfl) _) rfl rfl, trivial⟩ rfl rfl rfl rfl (fun _ h => absurd h (Nat.not_lt_zero _))
              · have hpn := hpz
                refine Wjoin ⟨[(0, .ros (ks.map i64) ks.length c), (1, i64 mo), (6, .ros ((heiQ ks).map n64) 8 (some 8)), (7, i64 (((heiQ ks)[(mo).toNat] : Nat) : Int)), (8, .ros (P.map listA) P.length none), (9, i64 ((j : Nat) : Int)), (10, .out 3 ((lg2 ++ [P[i] ++ [ks[q]]]).length) 1), (11, i64 ((i : Nat) : Int)), (12, i64 ((q : Nat) : Int))], [(3, outB ((lg2 ++ [P[i] ++ [ks[q]]]).map listA) 22 ((lg2 ++ [P[i] ++ [ks[q]]]).length))], 4, []⟩ ?_ ?_
                · rcases Nat.eq_zero_or_pos lg2.length with hz7 | hz7
                  · refine WdrawL [52, 57] rfl (by kernel_rfl) (by kernel_rfl) ?_
                    refine Dv rfl rfl rfl (U_move rfl) rfl rfl ?_
                    refine Dv rfl rfl rfl (U_buildSliceF (by rfl) (by decide) rfl rfl rfl) rfl rfl ?_
                    refine Dv rfl rfl rfl (U_move rfl) rfl rfl ?_
                    refine Dv rfl rfl rfl (U_move rfl) rfl rfl ?_
                    have hx8 : i < P.length := by omega
                    refine Dv rfl rfl rfl (U_indexR (j := i) rfl rfl rfl hx8) rfl rfl ?_
                    refine Dv rfl rfl rfl (U_load1 rfl rfl (getM hx8)) rfl rfl ?_
                    refine Da rfl rfl rfl (U_appL (n' := P[i].length) rfl rfl rfl rfl (srcR (map_len1 _)) (by omega) (by omega) rfl) rfl rfl rfl rfl ?_
                    refine Dv rfl rfl rfl (U_move rfl) rfl rfl ?_
                    refine Dv rfl rfl rfl (U_move rfl) rfl rfl ?_
                    have hx9 : q < ks.length := by omega
                    refine Dv rfl rfl rfl (U_indexR (j := q) rfl rfl rfl hx9) rfl rfl ?_
                    refine Dv rfl rfl rfl (U_load1 rfl rfl (getM hx9)) rfl rfl ?_
                    refine Dv rfl rfl rfl (U_buildSliceF (by rfl) (by decide) rfl rfl rfl) rfl rfl ?_
                    refine Da rfl rfl rfl (OpU.frz (b := 2) (U_appO (b := 1) (m := 0) (cs' := (P[i] ++ [ks[q]]).map i64) (n' := (P[i] ++ [ks[q]]).length) rfl rfl (by simp) rfl (map_len1 _) rfl rfl (by omega) (appM _ _) (len1 _ _)) rfl (by simp) (mapD (fun _ => rfl) _) (Nat.le_refl _) (Nat.lt_succ_self _)) rfl rfl rfl (upsF rfl hpz) ?_
                    refine Dv rfl rfl rfl (U_buildSliceF (by rfl) (by decide) rfl rfl rfl) rfl rfl ?_
                    refine Da rfl rfl rfl (U_appO0 (b := 0) (cs := (lg2.map listA)) (m := 0) (cs' := (lg2 ++ [P[i] ++ [ks[q]]]).map listA) (n' := (lg2 ++ [P[i] ++ [ks[q]]]).length) rfl hz7 rfl (by simp) (map_len1 _) rfl (by omega) (appM _ _) (len1 _ _)) rfl rfl rfl rfl ?_
                    refine Dv rfl rfl rfl (U_assign rfl) rfl rfl ?_
                    refine Dr.nil rfl ?_
                    exact joinTo id ⟨eD rfl rfl, eD rfl rfl, eD rfl rfl, eD rfl rfl, eD rfl rfl, eD rfl rfl, e_ rfl rfl, eD rfl rfl, eD rfl rfl, trivial⟩ ⟨rO (mapD (fun _ => rfl) _) rfl rfl, trivial⟩ rfl rfl rfl rfl (fun _ _ => rfl)
                  · refine WdrawL [52, 57] rfl (by kernel_rfl) (by kernel_rfl) ?_
                    refine Dv rfl rfl rfl (U_move rfl) rfl rfl ?_
                    refine Dv rfl rfl rfl (U_buildSliceF (by rfl) (by decide) rfl rfl rfl) rfl rfl ?_
                    refine Dv rfl rfl rfl (U_move rfl) rfl rfl ?_
                    refine Dv rfl rfl rfl (U_move rfl) rfl rfl ?_
                    have hx10 : i < P.length := by omega
                    refine Dv rfl rfl rfl (U_indexR (j := i) rfl rfl rfl hx10) rfl rfl ?_
                    refine Dv rfl rfl rfl (U_load1 rfl rfl (getM hx10)) rfl rfl ?_
                    refine Da rfl rfl rfl (U_appL (n' := P[i].length) rfl rfl rfl rfl (srcR (map_len1 _)) (by omega) (by omega) rfl) rfl rfl rfl rfl ?_
                    refine Dv rfl rfl rfl (U_move rfl) rfl rfl ?_
                    refine Dv rfl rfl rfl (U_move rfl) rfl rfl ?_
                    have hx11 : q < ks.length := by omega
                    refine Dv rfl rfl rfl (U_indexR (j := q) rfl rfl rfl hx11) rfl rfl ?_
                    refine Dv rfl rfl rfl (U_load1 rfl rfl (getM hx11)) rfl rfl ?_
                    refine Dv rfl rfl rfl (U_buildSliceF (by rfl) (by decide) rfl rfl rfl) rfl rfl ?_
                    refine Da rfl rfl rfl (OpU.frz (b := 2) (U_appO (b := 1) (m := 0) (cs' := (P[i] ++ [ks[q]]).map i64) (n' := (P[i] ++ [ks[q]]).length) rfl rfl (by simp) rfl (map_len1 _) rfl rfl (by omega) (appM _ _) (len1 _ _)) rfl (by simp) (mapD (fun _ => rfl) _) (Nat.le_refl _) (Nat.lt_succ_self _)) rfl rfl rfl (upsF rfl hpz) ?_
                    refine Dv rfl rfl rfl (U_buildSliceF (by rfl) (by decide) rfl rfl rfl) rfl rfl ?_
                    refine Da rfl rfl rfl (U_appO (b := 0) (m := 0) (cs' := (lg2 ++ [P[i] ++ [ks[q]]]).map listA) (n' := (lg2 ++ [P[i] ++ [ks[q]]]).length) rfl rfl (by simp) rfl (map_len1 _) rfl rfl (by omega) (appM _ _) (len1 _ _)) rfl rfl rfl (upsO rfl hz7) ?_
                    refine Dv rfl rfl rfl (U_assign rfl) rfl rfl ?_
                    refine Dr.nil rfl ?_
                    exact joinTo id ⟨eD rfl rfl, eD rfl rfl, eD rfl rfl, eD rfl rfl, eD rfl rfl, eD rfl rfl, e_ rfl rfl, eD rfl rfl, eD rfl rfl, trivial⟩ ⟨rO (mapD (fun _ => rfl) _) rfl rfl, trivial⟩ rfl rfl rfl rfl (fun _ _ => rfl)
                refine blkQ_n ?_
                refine thenQ_n ?_
                refine W_reg rfl ?_
                refine Rv rfl rfl rfl (U_move rfl) rfl rfl ?_
                refine Rv rfl rfl rfl (U_add rfl rfl (w64e (m := ((q + 1 : Nat) : Int)) (by omega) (by omega) (by omega))) rfl rfl ?_
                refine Rv rfl rfl rfl (U_assign rfl) rfl rfl ?_
                refine Re rfl ?_
                refine thenQ_n ?_
                exact againTo (T' := [(0, .ros (ks.map i64) ks.length c), (1, i64 mo), (6, .ros ((heiQ ks).map n64) 8 (some 8)), (7, i64 (((heiQ ks)[(mo).toNat] : Nat) : Int)), (8, .ros (P.map listA) P.length none), (9, i64 ((j : Nat) : Int)), (10, .out 0 (lg2 ++ [P[i] ++ [ks[q]]]).length 1), (11, i64 ((i : Nat) : Int)), (12, i64 (((q + 1) : Nat) : Int))]) (H' := [(0, outB ((lg2 ++ [P[i] ++ [ks[q]]]).map listA) 22 (lg2 ++ [P[i] ++ [ks[q]]]).length)]) (n := 1) (ks.length - (q + 1)) ⟨q + 1, lg2 ++ [P[i] ++ [ks[q]]], (by omega), (by rw [map_snoc hcq, hi2_1, List.append_assoc]), rfl, rfl⟩ (by omega) (mapN [3]) ⟨eD rfl rfl, eD rfl rfl, eD rfl rfl, eD rfl rfl, eD rfl rfl, eD rfl rfl, e_ rfl rfl, eD rfl rfl, eD rfl rfl, trivial⟩ ⟨rO (mapD (fun _ => rfl) _) rfl rfl, trivial⟩ rfl rfl rfl rfl (fun _ h => absurd h (Nat.not_lt_zero _))
            · refine W_exit rfl ?_
              refine thenQ_x ?_
              refine thenQ_x ?_
              refine blkQ_x rfl ?_
              refine blkQ_n ?_
              refine thenQ_n ?_
              refine W_reg rfl ?_
              refine Rv rfl rfl rfl (U_move rfl) rfl rfl ?_
              refine Rv rfl rfl rfl (U_add rfl rfl (w64e (m := ((i + 1 : Nat) : Int)) (by omega) (by omega) (by omega))) rfl rfl ?_
              refine Rv rfl rfl rfl (U_assign rfl) rfl rfl ?_
              refine Re rfl ?_
              refine thenQ_n ?_
              exact againTo (T' := [(0, .ros (ks.map i64) ks.length c), (1, i64 mo), (6, .ros ((heiQ ks).map n64) 8 (some 8)), (7, i64 (((heiQ ks)[(mo).toNat] : Nat) : Int)), (8, .ros (P.map listA) P.length none), (9, i64 ((j : Nat) : Int)), (10, .out 0 lg2.length 1), (11, i64 (((i + 1) : Nat) : Int))]) (H' := [(0, outB (lg2.map listA) 22 lg2.length)]) (n := 1) (P.length - (i + 1)) ⟨i + 1, lg2, (by omega), (by rw [lngQ_snoc hci, ← hi1_1, hi2_1, List.take_of_length_le (by omega)]), rfl, rfl⟩ (by omega) id ⟨eD rfl rfl, eD rfl rfl, eD rfl rfl, eD rfl rfl, eD rfl rfl, eD rfl rfl, e_ rfl rfl, eD rfl rfl, trivial⟩ ⟨rO (mapD (fun _ => rfl) _) rfl rfl, trivial⟩ rfl rfl rfl rfl (fun _ _ => rfl)
          · have hlq : lg = lngQ ks P := by rw [hi1_1, List.take_of_length_le (by omega)]
            have hPm : ∀ p ∈ lg, p.length = j + 1 := by rw [hlq]; exact lngQ_mem hi0_2
            have hPl : ∀ p ∈ lg, p.length ≤ 20 := fun p hp => by have := hPm p hp; omega
            have hL2 : lg.length ≤ 8 ^ (j + 1) := by rw [hlq, lngQ_len, Nat.pow_succ]; exact Nat.mul_le_mul hi0_3 hkl
            refine W_exit rfl ?_
            refine thenQ_x ?_
            refine thenQ_x ?_
            refine blkQ_x rfl ?_
            refine thenQ_n ?_
            refine WfrO 0 (lg.map listA) rfl (mapD (fun _ => rfl) _) (T' := [(0, .ros (ks.map i64) ks.length c), (1, i64 mo), (6, .ros ((heiQ ks).map n64) 8 (some 8)), (7, i64 (((heiQ ks)[(mo).toNat] : Nat) : Int)), (9, i64 ((j : Nat) : Int)), (10, .ros (lg.map listA) lg.length none)]) (H' := []) ⟨fD rfl rfl, fD rfl rfl, fD rfl rfl, fD rfl rfl, fD rfl rfl, fO rfl, trivial⟩ trivial ?_
            refine W_reg rfl ?_
            refine Rv rfl rfl rfl (U_move rfl) rfl rfl ?_
            refine Rv rfl rfl rfl (U_move rfl) rfl rfl ?_
            refine Rv rfl rfl rfl (U_move rfl) rfl rfl ?_
            refine Rv rfl rfl rfl (U_move rfl) rfl rfl ?_
            refine Rv rfl rfl rfl (U_move rfl) rfl rfl ?_
            refine Rv rfl rfl rfl (U_move rfl) rfl rfl ?_
            refine Rv rfl rfl rfl (U_sub rfl rfl (w64 (by omega) (by omega))) rfl rfl ?_
            refine Rv rfl rfl rfl (U_sub rfl rfl (w64 (by omega) (by omega))) rfl rfl ?_
            refine Rv rfl rfl rfl (U_call rfl rfl (some_p ks c (by first | assumption | omega) lg none (by omega) hPl (heiQ ks) hh mo (((((heiQ ks)[(mo).toNat] : Nat) : Int) - ((j : Nat) : Int)) - 1) hmo) rfl) rfl rfl ?_
            refine Rv rfl rfl rfl (U_assign rfl) rfl rfl ?_
            refine Re rfl ?_
            refine blkQ_n ?_
            refine thenQ_n ?_
            refine W_reg rfl ?_
            refine Rv rfl rfl rfl (U_move rfl) rfl rfl ?_
            refine Rv rfl rfl rfl (U_add rfl rfl (w64e (m := ((j + 1 : Nat) : Int)) (by omega) (by omega) (by omega))) rfl rfl ?_
            refine Rv rfl rfl rfl (U_assign rfl) rfl rfl ?_
            refine Re rfl ?_
            refine thenQ_n ?_
            exact againTo (T' := [(0, .ros (ks.map i64) ks.length c), (1, i64 mo), (6, .ros ((heiQ ks).map n64) 8 (some 8)), (7, i64 (((heiQ ks)[(mo).toNat] : Nat) : Int)), (8, .ros ((somQ ks (heiQ ks) mo (((((heiQ ks)[(mo).toNat] : Nat) : Int) - ((j : Nat) : Int)) - 1) lg).map listA) (somQ ks (heiQ ks) mo (((((heiQ ks)[(mo).toNat] : Nat) : Int) - ((j : Nat) : Int)) - 1) lg).length none), (9, i64 (((j + 1) : Nat) : Int))]) (H' := []) (n := 0) ((geN (heiQ ks) mo.toNat) - (j + 1)) ⟨j + 1, somQ ks (heiQ ks) mo (((((heiQ ks)[(mo).toNat] : Nat) : Int) - ((j : Nat) : Int)) - 1) lg, (by omega), (by rw [stpQ, ← hi0_1, ← hlq, hge]), (fun p hp => hPm p ((List.mem_filter.1 hp).1)), (Nat.le_trans somQ_len hL2), rfl, rfl⟩ (by omega) id ⟨eD rfl rfl, eD rfl rfl, eD rfl rfl, eD rfl rfl, eD rfl rfl, eD rfl rfl, trivial⟩ trivial rfl rfl rfl rfl (fun _ _ => rfl)
        · obtain rfl : j = geN (heiQ ks) mo.toNat := by omega
          obtain ⟨tl, htl⟩ := stp_plan hok hc0 hmo h4
          rw [← hi0_1] at htl
          have hP0 : 0 < P.length := by rw [htl]; simp
          have hPe : P[0] = planQ ks (heiQ ks) mo (geN (heiQ ks) mo.toNat) 0 := by simp [htl]
          refine W_exit rfl ?_
          refine thenQ_x ?_
          refine thenQ_x ?_
          refine blkQ_x rfl ?_
          refine thenQ_n ?_
          refine W_seq rfl ?_
          refine W_reg rfl ?_
          refine Rv rfl rfl rfl (U_move rfl) rfl rfl ?_
          have hx12 : 0 < P.length := by omega
          refine Rv rfl rfl rfl (U_indexR (j := 0) rfl rfl rfl hx12) rfl rfl ?_
          refine Rv rfl rfl rfl (U_load1 rfl rfl (getM hx12)) rfl rfl ?_
          refine Rv rfl rfl rfl (U_assign rfl) rfl rfl ?_
          refine Rv rfl rfl rfl (U_assign rfl) rfl rfl ?_
          refine Re rfl ?_
          refine thenQ_n ?_
          refine W_ret rfl ?_
          exact retL (rlT rfl (rlT rfl rl0)) (by first | rfl | (simp only [packA]; rw [hPe]; first | done | rfl)) rfl
end Go.Proofs.Ythoodfiacfmhgaa
end

section
/- Contracts of package plate: the closed statements. -/
namespace Go.Proofs.Ythoodfiacfmhgaa
set_option maxRecDepth 20000
open Go.AE
theorem b1M {n : Nat} (h : n ≤ 64) : n ≤ 1000000 := by omega
theorem vp_64 {p : Pl} (h : chkP p = 0) : p.ds.length ≤ 64 := by
  obtain ⟨N, hv⟩ := vp_of h
  rw [hv.len]; exact Nat.mul_le_mul hv.hi hv.hi
theorem sz_mvR {p : Pl} {m : Int} : (mvR p m).ds.length ≤ 1000000 := by
  unfold mvR; split
  · rename_i h; rw [movP_len]; exact b1M (vp_64 (mvE_ok h).1)
  · simp
theorem leaE_ok {p : Pl} {ks : List Int} (h : leaE p ks = 0) : chkP p = 0 ∧ chkK ks = 0 := by
  unfold leaE at h; split at h
  · rename_i h1; exact absurd h h1
  · rename_i h1; exact ⟨Decidable.not_not.1 h1, h⟩
theorem sz_leaP {p : Pl} {ks : List Int} : (leaP p ks).ds.length ≤ 1000000 := by
  unfold leaP; split
  · rename_i h; rw [movP_len]; exact b1M (vp_64 (leaE_ok h).1)
  · simp
theorem sz_staR {p : Pl} : (staR p).length ≤ 1000000 := by
  unfold staR; split
  · exact Nat.le_trans filt_len (by decide)
  · simp
theorem sz_reaR {ks : List Int} : (reaR ks).length ≤ 1000000 := Nat.le_trans reaR_len (by decide)
theorem sz_heiR {ks : List Int} : (heiR ks).length ≤ 1000000 := by
  unfold heiR; split
  · rw [heiQ_ok.len]; decide
  · simp
theorem sz_kdsQ {b : Nat} : (kdsQ b).length ≤ 1000000 := Nat.le_trans filt_len (by decide)
theorem sz_plnN {ks : List Int} {bs : List Nat} (h : bs.length ≤ 1000000) : (plnN ks bs).length ≤ 1000000 := Nat.le_trans plnN_len h
theorem sz_plnR {ks : List Int} {mo : Int} : (plnR ks mo).length ≤ 1000000 := by
  unfold plnR; split
  · refine Nat.le_trans (planQ_len _ _) ?_
    by_cases h : mo.toNat < (heiQ ks).length
    · rw [geN_get h]; have := heiQ_ok.get h; omega
    · rw [geN_eq, List.getD_eq_getElem?_getD, List.getElem?_eq_none (by omega)]; decide
  · simp
/-- A list that is not too long. -/
class Sz {α : Type} (l : List α) : Prop where
  le : l.length ≤ 1000000
instance {p : Pl} {m : Int} : Sz (mvR p m).ds := ⟨sz_mvR⟩
instance {p : Pl} {ks : List Int} : Sz (leaP p ks).ds := ⟨sz_leaP⟩
instance {p : Pl} : Sz (staR p) := ⟨sz_staR⟩
instance {ks : List Int} : Sz (reaR ks) := ⟨sz_reaR⟩
instance {ks : List Int} : Sz (heiR ks) := ⟨sz_heiR⟩
instance {ks : List Int} {m : Int} : Sz (plnR ks m) := ⟨sz_plnR⟩
instance {b : Nat} : Sz (kdsQ b) := ⟨sz_kdsQ⟩
/-- Heights, as numbers. -/
def nI (l : List Nat) : List Int := l.map fun (n : Nat) => (n : Int)
theorem nats_ints (l : List Nat) (c : Option Nat) : AV.ros (l.map n64) l.length c = intsA (nI l) c := by
  show _ = AV.ros ((nI l).map i64) (nI l).length c
  rw [nI, List.map_map, List.length_map]; rfl
theorem nI_len {l : List Nat} : (nI l).length = l.length := by simp [nI]
theorem intsN_p (a b : List Nat) (c d : Option Nat) (ha : a.length ≤ 1000000) (hb : b.length ≤ 1000000) : Pure Try.prog 26 [.ros (a.map n64) a.length c, .ros (b.map n64) b.length d] (.bool (decide (nI a = nI b))) := by
  rw [nats_ints, nats_ints]; exact ints_p _ _ c d (by rw [nI_len]; exact ha) (by rw [nI_len]; exact hb)
theorem intsM_p (a : List Nat) (b : List Int) (c d : Option Nat) (ha : a.length ≤ 1000000) (hb : b.length ≤ 1000000) : Pure Try.prog 26 [.ros (a.map n64) a.length c, intsA b d] (.bool (decide (nI a = b))) := by
  rw [nats_ints]; exact ints_p _ _ c d (by rw [nI_len]; exact ha) hb
theorem samS_p (p : Pl) (c d : Option Nat) (hl : p.ds.length ≤ 1000000) : Pure Try.prog 25 [.agg [i64 p.n, intsA p.ds c], .agg [i64 p.n, intsA p.ds d]] (.bool true) := by
  have := samP_p p p c d hl hl; rwa [samP_self] at this
theorem intsS_p (a : List Int) (c d : Option Nat) (hl : a.length ≤ 1000000) : Pure Try.prog 26 [intsA a c, intsA a d] (.bool true) := by
  have := ints_p a a c d hl hl; rwa [decide_eq_true rfl] at this
theorem intsSN_p (a : List Nat) (c d : Option Nat) (hl : a.length ≤ 1000000) : Pure Try.prog 26 [.ros (a.map n64) a.length c, .ros (a.map n64) a.length d] (.bool true) := by
  have := intsN_p a a c d hl hl; rwa [decide_eq_true rfl] at this
theorem checkHeightsN_p (ks : List Int) (c : Option Nat) (hl : ks.length ≤ 1000000) (hs : List Nat) (d : Option Nat) (hl2 : hs.length ≤ 1000000) : Pure Try.prog 41 [intsA ks c, .ros (hs.map n64) hs.length d] (i64 (chE ks (nI hs))) := by
  rw [nats_ints]; exact checkHeights_p ks c hl _ d (by rw [nI_len]; exact hl2)
theorem checkHeightsNR_p (ks : List Int) (c : Option Nat) (hl : ks.length ≤ 1000000) (hs : List Nat) (d : Option Nat) (hl2 : hs.length ≤ 1000000) : Pure Try.prog 42 [intsA ks c, .ros (hs.map n64) hs.length d] (i64 (chE ks (nI hs))) := by
  rw [nats_ints]; exact checkHeightsR_p ks c hl _ d (by rw [nI_len]; exact hl2)
theorem samT_p (p q : Pl) (c d : Option Nat) (hl : p.ds.length ≤ 1000000) (hl2 : q.ds.length ≤ 1000000) (h : samP p q = true) : Pure Try.prog 25 [.agg [i64 p.n, intsA p.ds c], .agg [i64 q.n, intsA q.ds d]] (.bool true) := by
  have := samP_p p q c d hl hl2; rwa [h] at this
theorem intsT_p (a b : List Int) (c d : Option Nat) (hl : a.length ≤ 1000000) (hl2 : b.length ≤ 1000000) (h : a = b) : Pure Try.prog 26 [intsA a c, intsA b d] (.bool true) := by
  have := ints_p a b c d hl hl2; rwa [decide_eq_true h] at this
theorem intsMT_p (a : List Nat) (b : List Int) (c d : Option Nat) (hl : a.length ≤ 1000000) (hl2 : b.length ≤ 1000000) (h : nI a = b) : Pure Try.prog 26 [.ros (a.map n64) a.length c, intsA b d] (.bool true) := by
  have := intsM_p a b c d hl hl2; rwa [decide_eq_true h] at this
theorem works_p  : Pure Try.prog 18 [] (.bool true) := by
  refine pure_of_body Try.func18 (c := body Try.f18) rfl (by simp [Try.ntmps18]) fun w0 Φ0 => ?_
  refine W_seq rfl ?_
  refine W_reg rfl ?_
  refine Rv rfl rfl rfl (U_assign rfl) rfl rfl ?_
  refine Re rfl ?_
  refine thenQ_n ?_
  refine W_seq rfl ?_
  refine W_reg rfl ?_
  refine Rv rfl rfl rfl (U_buildSliceF (by rfl) (by decide) rfl rfl rfl) rfl rfl ?_
  refine Rv rfl rfl rfl (U_call rfl rfl (square_p 2 [1, 0, 0, 0] (some 4)) rfl) rfl rfl ?_
  refine Rv rfl rfl rfl (U_buildSliceF (by rfl) (by decide) rfl rfl rfl) rfl rfl ?_
  refine Rv rfl rfl rfl (U_call rfl rfl (square_p 2 [0, 1, 0, 0] (some 4)) rfl) rfl rfl ?_
  refine Ra rfl rfl rfl (U_alloc) rfl rfl rfl ?_
  refine Ra rfl rfl rfl (U_alloc) rfl rfl rfl ?_
  refine Rn rfl rfl rfl (U_storeAll rfl rfl rfl rfl rfl rfl) rfl ?_
  refine Rn rfl rfl rfl (U_storeAll rfl rfl rfl rfl rfl rfl) rfl ?_
  refine Re rfl ?_
  refine thenQ_n ?_
  refine WfrN 0 rfl rfl (T' := [(1, .rop [i64 ((⟨2, [1, 0, 0, 0]⟩ : Pl).n), .ros (((⟨2, [1, 0, 0, 0]⟩ : Pl).ds).map i64) (((⟨2, [1, 0, 0, 0]⟩ : Pl).ds).length) (some 4)] 0), (2, .ptr 1 0)]) (H' := [(1, some (.cells [i64 ((⟨2, [0, 1, 0, 0]⟩ : Pl).n), .ros (((⟨2, [0, 1, 0, 0]⟩ : Pl).ds).map i64) (((⟨2, [0, 1, 0, 0]⟩ : Pl).ds).length) (some 4)] 24))]) ⟨⟨_, rfl, rfl⟩, ⟨_, rfl, rfl⟩, trivial⟩ ⟨⟨rfl, rF rfl rfl⟩, trivial⟩ ?_
  refine WfrN 1 rfl rfl (T' := [(1, .rop [i64 ((⟨2, [1, 0, 0, 0]⟩ : Pl).n), .ros (((⟨2, [1, 0, 0, 0]⟩ : Pl).ds).map i64) (((⟨2, [1, 0, 0, 0]⟩ : Pl).ds).length) (some 4)] 0), (2, .rop [i64 ((⟨2, [0, 1, 0, 0]⟩ : Pl).n), .ros (((⟨2, [0, 1, 0, 0]⟩ : Pl).ds).map i64) (((⟨2, [0, 1, 0, 0]⟩ : Pl).ds).length) (some 4)] 0)]) (H' := []) ⟨⟨_, rfl, rfl⟩, ⟨_, rfl, rfl⟩, trivial⟩ trivial ?_
  refine W_seq rfl ?_
  refine W_reg rfl ?_
  refine Rv rfl rfl rfl (U_load2 rfl rfl rfl rfl) rfl rfl ?_
  refine Rv rfl rfl rfl (U_call rfl rfl (move_p (⟨2, [1, 0, 0, 0]⟩ : Pl) (some 4) (by first | assumption | omega | exact Sz.le | (simp; done) | (simp; omega)) 1) rfl) rfl rfl ?_
  refine Rv rfl rfl rfl (U_move rfl) rfl rfl ?_
  refine Rv rfl rfl rfl (U_extract rfl rfl) rfl rfl ?_
  refine Rv rfl rfl rfl (U_extract rfl rfl) rfl rfl ?_
  refine Ra rfl rfl rfl (U_alloc) rfl rfl rfl ?_
  refine Rn rfl rfl rfl (U_storeAll rfl rfl rfl rfl rfl rfl) rfl ?_
  refine Rv rfl rfl rfl (U_assign rfl) rfl rfl ?_
  refine Re rfl ?_
  refine thenQ_n ?_
  refine WfrN 2 rfl rfl (T' := [(1, .rop [i64 ((⟨2, [1, 0, 0, 0]⟩ : Pl).n), .ros (((⟨2, [1, 0, 0, 0]⟩ : Pl).ds).map i64) (((⟨2, [1, 0, 0, 0]⟩ : Pl).ds).length) (some 4)] 0), (2, .rop [i64 ((⟨2, [0, 1, 0, 0]⟩ : Pl).n), .ros (((⟨2, [0, 1, 0, 0]⟩ : Pl).ds).map i64) (((⟨2, [0, 1, 0, 0]⟩ : Pl).ds).length) (some 4)] 0), (3, .rop [i64 ((mvR (⟨2, [1, 0, 0, 0]⟩ : Pl) 1).n), .ros (((mvR (⟨2, [1, 0, 0, 0]⟩ : Pl) 1).ds).map i64) (((mvR (⟨2, [1, 0, 0, 0]⟩ : Pl) 1).ds).length) none] 0), (4, i64 (mvE (⟨2, [1, 0, 0, 0]⟩ : Pl) 1))]) (H' := []) ⟨⟨_, rfl, rfl⟩, ⟨_, rfl, rfl⟩, ⟨_, rfl, rfl⟩, ⟨_, rfl, rfl⟩, trivial⟩ trivial ?_
  refine W_seq rfl ?_
  refine W_reg rfl ?_
  refine Rv rfl rfl rfl (U_load2 rfl rfl rfl rfl) rfl rfl ?_
  refine Rv rfl rfl rfl (U_call rfl rfl (move_p (⟨2, [1, 0, 0, 0]⟩ : Pl) (some 4) (by first | assumption | omega | exact Sz.le | (simp; done) | (simp; omega)) 8) rfl) rfl rfl ?_
  refine Rv rfl rfl rfl (U_move rfl) rfl rfl ?_
  refine Rv rfl rfl rfl (U_extract rfl rfl) rfl rfl ?_
  refine Rv rfl rfl rfl (U_extract rfl rfl) rfl rfl ?_
  refine Ra rfl rfl rfl (U_alloc) rfl rfl rfl ?_
  refine Rn rfl rfl rfl (U_storeAll rfl rfl rfl rfl rfl rfl) rfl ?_
  refine Rv rfl rfl rfl (U_assign rfl) rfl rfl ?_
  refine Re rfl ?_
  refine thenQ_n ?_
  refine W_seq rfl ?_
  refine W_reg rfl ?_
  refine Rv rfl rfl rfl (U_call rfl rfl (afterA_p 1 4) rfl) rfl rfl ?_
  refine Rv rfl rfl rfl (U_move rfl) rfl rfl ?_
  refine Rv rfl rfl rfl (U_extract rfl rfl) rfl rfl ?_
  refine Rv rfl rfl rfl (U_extract rfl rfl) rfl rfl ?_
  refine Rv rfl rfl rfl (U_assign rfl) rfl rfl ?_
  refine Rv rfl rfl rfl (U_assign rfl) rfl rfl ?_
  refine Re rfl ?_
  refine thenQ_n ?_
  refine W_seq rfl ?_
  refine W_reg rfl ?_
  refine Rv rfl rfl rfl (U_call rfl rfl (inverseA_p 1) rfl) rfl rfl ?_
  refine Rv rfl rfl rfl (U_move rfl) rfl rfl ?_
  refine Rv rfl rfl rfl (U_extract rfl rfl) rfl rfl ?_
  refine Rv rfl rfl rfl (U_extract rfl rfl) rfl rfl ?_
  refine Rv rfl rfl rfl (U_assign rfl) rfl rfl ?_
  refine Rv rfl rfl rfl (U_assign rfl) rfl rfl ?_
  refine Re rfl ?_
  refine thenQ_n ?_
  refine W_seq rfl ?_
  refine W_reg rfl ?_
  refine Rv rfl rfl rfl (U_buildSliceF (by rfl) (by decide) rfl rfl rfl) rfl rfl ?_
  refine Rv rfl rfl rfl (U_call rfl rfl (of_p [2, 4] (some 2)) rfl) rfl rfl ?_
  refine Rv rfl rfl rfl (U_call rfl rfl (reachedA_p [2, 4] (some 2) (by first | assumption | omega | exact Sz.le | (simp; done) | (simp; omega))) rfl) rfl rfl ?_
  refine Rv rfl rfl rfl (U_move rfl) rfl rfl ?_
  refine Rv rfl rfl rfl (U_extract rfl rfl) rfl rfl ?_
  refine Rv rfl rfl rfl (U_extract rfl rfl) rfl rfl ?_
  refine Rv rfl rfl rfl (U_assign rfl) rfl rfl ?_
  refine Rv rfl rfl rfl (U_assign rfl) rfl rfl ?_
  refine Re rfl ?_
  refine thenQ_n ?_
  refine W_seq rfl ?_
  refine W_reg rfl ?_
  refine Rv rfl rfl rfl (U_buildSliceF (by rfl) (by decide) rfl rfl rfl) rfl rfl ?_
  refine Rv rfl rfl rfl (U_call rfl rfl (of_p [1, 4] (some 2)) rfl) rfl rfl ?_
  refine Rv rfl rfl rfl (U_buildSliceF (by rfl) (by decide) rfl rfl rfl) rfl rfl ?_
  refine Rv rfl rfl rfl (U_call rfl rfl (of_p [4, 1, 4] (some 3)) rfl) rfl rfl ?_
  refine Rv rfl rfl rfl (U_call rfl rfl (checkPlan_p [1, 4] (some 2) (by first | assumption | omega | exact Sz.le | (simp; done) | (simp; omega)) [4, 1, 4] (some 3) (by first | assumption | omega | exact Sz.le | (simp; done) | (simp; omega))) rfl) rfl rfl ?_
  refine Rv rfl rfl rfl (U_move rfl) rfl rfl ?_
  refine Rv rfl rfl rfl (U_extract rfl rfl) rfl rfl ?_
  refine Rv rfl rfl rfl (U_extract rfl rfl) rfl rfl ?_
  refine Rv rfl rfl rfl (U_assign rfl) rfl rfl ?_
  refine Rv rfl rfl rfl (U_assign rfl) rfl rfl ?_
  refine Re rfl ?_
  refine thenQ_n ?_
  refine W_seq rfl ?_
  refine W_reg rfl ?_
  refine Rv rfl rfl rfl (U_buildSliceF (by rfl) (by decide) rfl rfl rfl) rfl rfl ?_
  refine Rv rfl rfl rfl (U_call rfl rfl (of_p [1, 4] (some 2)) rfl) rfl rfl ?_
  refine Rv rfl rfl rfl (U_call rfl rfl (planA_p [1, 4] (some 2) (by first | assumption | omega | exact Sz.le | (simp; done) | (simp; omega)) 7) rfl) rfl rfl ?_
  refine Rv rfl rfl rfl (U_move rfl) rfl rfl ?_
  refine Rv rfl rfl rfl (U_extract rfl rfl) rfl rfl ?_
  refine Rv rfl rfl rfl (U_extract rfl rfl) rfl rfl ?_
  refine Rv rfl rfl rfl (U_assign rfl) rfl rfl ?_
  refine Rv rfl rfl rfl (U_assign rfl) rfl rfl ?_
  refine Re rfl ?_
  refine thenQ_n ?_
  refine W_seq rfl ?_
  refine W_reg rfl ?_
  refine Rv rfl rfl rfl (U_buildSliceF (by rfl) (by decide) rfl rfl rfl) rfl rfl ?_
  refine Rv rfl rfl rfl (U_call rfl rfl (of_p [1] (some 1)) rfl) rfl rfl ?_
  refine Rv rfl rfl rfl (U_call rfl rfl (planA_p [1] (some 1) (by first | assumption | omega | exact Sz.le | (simp; done) | (simp; omega)) 4) rfl) rfl rfl ?_
  refine Rv rfl rfl rfl (U_move rfl) rfl rfl ?_
  refine Rv rfl rfl rfl (U_extract rfl rfl) rfl rfl ?_
  refine Rv rfl rfl rfl (U_extract rfl rfl) rfl rfl ?_
  refine Rv rfl rfl rfl (U_assign rfl) rfl rfl ?_
  refine Rv rfl rfl rfl (U_assign rfl) rfl rfl ?_
  refine Re rfl ?_
  refine thenQ_n ?_
  refine W_seq rfl ?_
  refine W_reg rfl ?_
  refine Rv rfl rfl rfl (U_buildSliceF (by rfl) (by decide) rfl rfl rfl) rfl rfl ?_
  refine Rv rfl rfl rfl (U_call rfl rfl (of_p [1, 4] (some 2)) rfl) rfl rfl ?_
  refine Rv rfl rfl rfl (U_call rfl rfl (heightsA_p [1, 4] (some 2) (by first | assumption | omega | exact Sz.le | (simp; done) | (simp; omega))) rfl) rfl rfl ?_
  refine Rv rfl rfl rfl (U_move rfl) rfl rfl ?_
  refine Rv rfl rfl rfl (U_extract rfl rfl) rfl rfl ?_
  refine Rv rfl rfl rfl (U_extract rfl rfl) rfl rfl ?_
  refine Rv rfl rfl rfl (U_assign rfl) rfl rfl ?_
  refine Rv rfl rfl rfl (U_assign rfl) rfl rfl ?_
  refine Re rfl ?_
  refine thenQ_n ?_
  refine W_seq rfl ?_
  refine W_reg rfl ?_
  refine Rv rfl rfl rfl (U_buildSliceF (by rfl) (by decide) rfl rfl rfl) rfl rfl ?_
  refine Rv rfl rfl rfl (U_call rfl rfl (of_p [1, 4] (some 2)) rfl) rfl rfl ?_
  refine Rv rfl rfl rfl (U_buildSliceF (by rfl) (by decide) rfl rfl rfl) rfl rfl ?_
  refine Rv rfl rfl rfl (U_call rfl rfl (of_p [0, 1, 1, 1, 1, 1, 1, 1] (some 8)) rfl) rfl rfl ?_
  refine Rv rfl rfl rfl (U_call rfl rfl (checkHeights_p [1, 4] (some 2) (by first | assumption | omega | exact Sz.le | (simp; done) | (simp; omega)) [0, 1, 1, 1, 1, 1, 1, 1] (some 8) (by first | assumption | omega | exact Sz.le | (simp; done) | (simp; omega))) rfl) rfl rfl ?_
  refine Rv rfl rfl rfl (U_buildSliceF (by rfl) (by decide) rfl rfl rfl) rfl rfl ?_
  refine Rv rfl rfl rfl (U_call rfl rfl (of_p [1, 4] (some 2)) rfl) rfl rfl ?_
  refine Rv rfl rfl rfl (U_buildSliceF (by rfl) (by decide) rfl rfl rfl) rfl rfl ?_
  refine Rv rfl rfl rfl (U_call rfl rfl (of_p [0, 1, 2, 3, 1, 2, 4, 2] (some 8)) rfl) rfl rfl ?_
  refine Rv rfl rfl rfl (U_call rfl rfl (checkHeights_p [1, 4] (some 2) (by first | assumption | omega | exact Sz.le | (simp; done) | (simp; omega)) [0, 1, 2, 3, 1, 2, 4, 2] (some 8) (by first | assumption | omega | exact Sz.le | (simp; done) | (simp; omega))) rfl) rfl rfl ?_
  refine Rv rfl rfl rfl (U_assign rfl) rfl rfl ?_
  refine Rv rfl rfl rfl (U_assign rfl) rfl rfl ?_
  refine Re rfl ?_
  refine thenQ_n ?_
  refine W_seq rfl ?_
  refine W_reg rfl ?_
  refine Rv rfl rfl rfl (U_load2 rfl rfl rfl rfl) rfl rfl ?_
  refine Rv rfl rfl rfl (U_call rfl rfl (stays_p (⟨2, [1, 0, 0, 0]⟩ : Pl) (some 4) (by first | assumption | omega | exact Sz.le | (simp; done) | (simp; omega))) rfl) rfl rfl ?_
  refine Rv rfl rfl rfl (U_move rfl) rfl rfl ?_
  refine Rv rfl rfl rfl (U_extract rfl rfl) rfl rfl ?_
  refine Rv rfl rfl rfl (U_extract rfl rfl) rfl rfl ?_
  refine Rv rfl rfl rfl (U_assign rfl) rfl rfl ?_
  refine Rv rfl rfl rfl (U_assign rfl) rfl rfl ?_
  refine Re rfl ?_
  refine thenQ_n ?_
  refine W_seq rfl ?_
  refine Wdraw rfl (by kernel_rfl) (by kernel_rfl) ?_
  refine Dv rfl rfl rfl (U_load2 rfl rfl rfl rfl) rfl rfl ?_
  refine Dv rfl rfl rfl (U_buildSliceF (by rfl) (by decide) rfl rfl rfl) rfl rfl ?_
  refine Dv rfl rfl rfl (U_call rfl rfl (of_p [1, 4] (some 2)) rfl) rfl rfl ?_
  refine Dv rfl rfl rfl (U_call rfl rfl (least_p (⟨2, [1, 0, 0, 0]⟩ : Pl) (some 4) (by first | assumption | omega | exact Sz.le | (simp; done) | (simp; omega)) [1, 4] (some 2) (by first | assumption | omega | exact Sz.le | (simp; done) | (simp; omega))) rfl) rfl rfl ?_
  refine Dv rfl rfl rfl (U_move rfl) rfl rfl ?_
  refine Dv rfl rfl rfl (U_extract rfl rfl) rfl rfl ?_
  refine Dv rfl rfl rfl (U_extract rfl rfl) rfl rfl ?_
  refine Dv rfl rfl rfl (U_extract rfl rfl) rfl rfl ?_
  refine Da rfl rfl rfl (U_alloc) rfl rfl rfl rfl ?_
  refine Dn_ rfl rfl rfl (U_storeAll rfl rfl rfl rfl rfl rfl) rfl rfl ?_
  refine Dv rfl rfl rfl (U_assign rfl) rfl rfl ?_
  refine Dv rfl rfl rfl (U_assign rfl) rfl rfl ?_
  refine Dr.nil rfl ?_
  refine thenQ_n ?_
  refine WfrN 4 rfl rfl (T' := [(1, .rop [i64 ((⟨2, [1, 0, 0, 0]⟩ : Pl).n), .ros (((⟨2, [1, 0, 0, 0]⟩ : Pl).ds).map i64) (((⟨2, [1, 0, 0, 0]⟩ : Pl).ds).length) (some 4)] 0), (2, .rop [i64 ((⟨2, [0, 1, 0, 0]⟩ : Pl).n), .ros (((⟨2, [0, 1, 0, 0]⟩ : Pl).ds).map i64) (((⟨2, [0, 1, 0, 0]⟩ : Pl).ds).length) (some 4)] 0), (3, .rop [i64 ((mvR (⟨2, [1, 0, 0, 0]⟩ : Pl) 1).n), .ros (((mvR (⟨2, [1, 0, 0, 0]⟩ : Pl) 1).ds).map i64) (((mvR (⟨2, [1, 0, 0, 0]⟩ : Pl) 1).ds).length) none] 0), (4, i64 (mvE (⟨2, [1, 0, 0, 0]⟩ : Pl) 1)), (6, i64 (mvE (⟨2, [1, 0, 0, 0]⟩ : Pl) 8)), (7, i64 (aftR 1 4)), (8, i64 (aftE 1 4)), (9, i64 (invR 1)), (10, i64 (invE 1)), (11, .ros ((reaR [2, 4]).map i64) ((reaR [2, 4]).length) none), (12, i64 (chkK [2, 4])), (13, i64 (cplR [1, 4] [4, 1, 4])), (14, i64 (cplE [1, 4] [4, 1, 4])), (15, .ros ((plnR [1, 4] 7).map i64) ((plnR [1, 4] 7).length) none), (16, i64 (plnE [1, 4] 7)), (18, i64 (plnE [1] 4)), (19, .ros ((heiR [1, 4]).map n64) ((heiR [1, 4]).length) none), (20, i64 (chkK [1, 4])), (21, i64 (chE [1, 4] [0, 1, 1, 1, 1, 1, 1, 1])), (22, i64 (chE [1, 4] [0, 1, 2, 3, 1, 2, 4, 2])), (23, .ros ((staR (⟨2, [1, 0, 0, 0]⟩ : Pl)).map i64) ((staR (⟨2, [1, 0, 0, 0]⟩ : Pl)).length) none), (24, i64 (chkP (⟨2, [1, 0, 0, 0]⟩ : Pl))), (25, .rop [i64 ((leaP (⟨2, [1, 0, 0, 0]⟩ : Pl) [1, 4]).n), .ros (((leaP (⟨2, [1, 0, 0, 0]⟩ : Pl) [1, 4]).ds).map i64) (((leaP (⟨2, [1, 0, 0, 0]⟩ : Pl) [1, 4]).ds).length) none] 0), (26, i64 (leaM (⟨2, [1, 0, 0, 0]⟩ : Pl) [1, 4])), (27, i64 (leaE (⟨2, [1, 0, 0, 0]⟩ : Pl) [1, 4]))]) (H' := []) ⟨⟨_, rfl, rfl⟩, ⟨_, rfl, rfl⟩, ⟨_, rfl, rfl⟩, ⟨_, rfl, rfl⟩, ⟨_, rfl, rfl⟩, ⟨_, rfl, rfl⟩, ⟨_, rfl, rfl⟩, ⟨_, rfl, rfl⟩, ⟨_, rfl, rfl⟩, ⟨_, rfl, rfl⟩, ⟨_, rfl, rfl⟩, ⟨_, rfl, rfl⟩, ⟨_, rfl, rfl⟩, ⟨_, rfl, rfl⟩, ⟨_, rfl, rfl⟩, ⟨_, rfl, rfl⟩, ⟨_, rfl, rfl⟩, ⟨_, rfl, rfl⟩, ⟨_, rfl, rfl⟩, ⟨_, rfl, rfl⟩, ⟨_, rfl, rfl⟩, ⟨_, rfl, rfl⟩, ⟨_, rfl, rfl⟩, ⟨_, rfl, rfl⟩, ⟨_, rfl, rfl⟩, trivial⟩ trivial ?_
  refine W_seq rfl ?_
  refine Wdraw rfl (by kernel_rfl) (by kernel_rfl) ?_
  refine Dv rfl rfl rfl (U_load2 rfl rfl rfl rfl) rfl rfl ?_
  refine Dv rfl rfl rfl (U_load2 rfl rfl rfl rfl) rfl rfl ?_
  refine Dv rfl rfl rfl (U_buildSliceF (by rfl) (by decide) rfl rfl rfl) rfl rfl ?_
  refine Dv rfl rfl rfl (U_call rfl rfl (of_p [4] (some 1)) rfl) rfl rfl ?_
  refine Dv rfl rfl rfl (U_call rfl rfl (alike_p (⟨2, [1, 0, 0, 0]⟩ : Pl) (⟨2, [0, 1, 0, 0]⟩ : Pl) (some 4) (some 4) (by first | assumption | omega | exact Sz.le | (simp; done) | (simp; omega)) (by first | assumption | omega | exact Sz.le | (simp; done) | (simp; omega)) [4] (some 1) (by first | assumption | omega | exact Sz.le | (simp; done) | (simp; omega))) rfl) rfl rfl ?_
  refine Dv rfl rfl rfl (U_move rfl) rfl rfl ?_
  refine Dv rfl rfl rfl (U_extract rfl rfl) rfl rfl ?_
  refine Dv rfl rfl rfl (U_extract rfl rfl) rfl rfl ?_
  refine Dv rfl rfl rfl (U_assign rfl) rfl rfl ?_
  refine Dv rfl rfl rfl (U_assign rfl) rfl rfl ?_
  refine Dr.nil rfl ?_
  refine thenQ_n ?_
  refine W_seq rfl ?_
  refine Wdraw rfl (by kernel_rfl) (by kernel_rfl) ?_
  refine Dv rfl rfl rfl (U_load2 rfl rfl rfl rfl) rfl rfl ?_
  refine Dv rfl rfl rfl (U_load2 rfl rfl rfl rfl) rfl rfl ?_
  refine Dv rfl rfl rfl (U_buildSliceF (by rfl) (by decide) rfl rfl rfl) rfl rfl ?_
  refine Dv rfl rfl rfl (U_call rfl rfl (of_p [2] (some 1)) rfl) rfl rfl ?_
  refine Dv rfl rfl rfl (U_call rfl rfl (alike_p (⟨2, [1, 0, 0, 0]⟩ : Pl) (⟨2, [0, 1, 0, 0]⟩ : Pl) (some 4) (some 4) (by first | assumption | omega | exact Sz.le | (simp; done) | (simp; omega)) (by first | assumption | omega | exact Sz.le | (simp; done) | (simp; omega)) [2] (some 1) (by first | assumption | omega | exact Sz.le | (simp; done) | (simp; omega))) rfl) rfl rfl ?_
  refine Dv rfl rfl rfl (U_move rfl) rfl rfl ?_
  refine Dv rfl rfl rfl (U_extract rfl rfl) rfl rfl ?_
  refine Dv rfl rfl rfl (U_extract rfl rfl) rfl rfl ?_
  refine Dv rfl rfl rfl (U_assign rfl) rfl rfl ?_
  refine Dv rfl rfl rfl (U_assign rfl) rfl rfl ?_
  refine Dr.nil rfl ?_
  refine thenQ_n ?_
  refine W_seq rfl ?_
  refine W_reg rfl ?_
  refine Rv rfl rfl rfl (U_call rfl rfl (circlesA_p 2 7) rfl) rfl rfl ?_
  refine Rv rfl rfl rfl (U_move rfl) rfl rfl ?_
  refine Rv rfl rfl rfl (U_extract rfl rfl) rfl rfl ?_
  refine Rv rfl rfl rfl (U_extract rfl rfl) rfl rfl ?_
  refine Rv rfl rfl rfl (U_assign rfl) rfl rfl ?_
  refine Rv rfl rfl rfl (U_assign rfl) rfl rfl ?_
  refine Re rfl ?_
  refine thenQ_n ?_
  refine W_seq rfl ?_
  refine W_reg rfl ?_
  refine Rv rfl rfl rfl (U_buildSliceF (by rfl) (by decide) rfl rfl rfl) rfl rfl ?_
  refine Rv rfl rfl rfl (U_call rfl rfl (of_p [1] (some 1)) rfl) rfl rfl ?_
  refine Rv rfl rfl rfl (U_call rfl rfl (count_p 2 2 [1] (some 1) (by first | assumption | omega | exact Sz.le | (simp; done) | (simp; omega))) rfl) rfl rfl ?_
  refine Rv rfl rfl rfl (U_move rfl) rfl rfl ?_
  refine Rv rfl rfl rfl (U_extract rfl rfl) rfl rfl ?_
  refine Rv rfl rfl rfl (U_extract rfl rfl) rfl rfl ?_
  refine Rv rfl rfl rfl (U_assign rfl) rfl rfl ?_
  refine Rv rfl rfl rfl (U_assign rfl) rfl rfl ?_
  refine Re rfl ?_
  refine thenQ_n ?_
  refine W_seq rfl ?_
  refine W_seq rfl ?_
  refine W_reg rfl ?_
  refine Rv rfl rfl rfl (U_move rfl) rfl rfl ?_
  refine Rv rfl rfl rfl (U_neqE (a := (mvE (⟨2, [1, 0, 0, 0]⟩ : Pl) 1)) (b := 0) rfl rfl (by decide +kernel)) rfl rfl ?_
  refine Rv rfl rfl rfl (U_move rfl) rfl rfl ?_
  refine Rv rfl rfl rfl (U_move rfl) rfl rfl ?_
  refine Rv rfl rfl rfl (U_neqE (a := (mvE (⟨2, [1, 0, 0, 0]⟩ : Pl) 8)) (b := 2) rfl rfl (by decide +kernel)) rfl rfl ?_
  refine Rv rfl rfl rfl (U_pick_f rfl rfl) rfl rfl ?_
  refine Rv rfl rfl rfl (U_move rfl) rfl rfl ?_
  refine Rv rfl rfl rfl (U_move rfl) rfl rfl ?_
  refine Rv rfl rfl rfl (U_neqE (a := (aftE 1 4)) (b := 0) rfl rfl (by decide +kernel)) rfl rfl ?_
  refine Rv rfl rfl rfl (U_pick_f rfl rfl) rfl rfl ?_
  refine Rv rfl rfl rfl (U_move rfl) rfl rfl ?_
  refine Rv rfl rfl rfl (U_move rfl) rfl rfl ?_
  refine Rv rfl rfl rfl (U_neqE (a := (invE 1)) (b := 0) rfl rfl (by decide +kernel)) rfl rfl ?_
  refine Rv rfl rfl rfl (U_pick_f rfl rfl) rfl rfl ?_
  refine Rv rfl rfl rfl (U_move rfl) rfl rfl ?_
  refine Rv rfl rfl rfl (U_move rfl) rfl rfl ?_
  refine Rv rfl rfl rfl (U_neqE (a := (chkK [2, 4])) (b := 0) rfl rfl (by decide +kernel)) rfl rfl ?_
  refine Rv rfl rfl rfl (U_pick_f rfl rfl) rfl rfl ?_
  refine Rv rfl rfl rfl (U_move rfl) rfl rfl ?_
  refine Rv rfl rfl rfl (U_move rfl) rfl rfl ?_
  refine Rv rfl rfl rfl (U_neqE (a := (cplE [1, 4] [4, 1, 4])) (b := 0) rfl rfl (by decide +kernel)) rfl rfl ?_
  refine Rv rfl rfl rfl (U_pick_f rfl rfl) rfl rfl ?_
  refine Rv rfl rfl rfl (U_move rfl) rfl rfl ?_
  refine Rv rfl rfl rfl (U_move rfl) rfl rfl ?_
  refine Rv rfl rfl rfl (U_neqE (a := (plnE [1, 4] 7)) (b := 0) rfl rfl (by decide +kernel)) rfl rfl ?_
  refine Rv rfl rfl rfl (U_pick_f rfl rfl) rfl rfl ?_
  refine Rv rfl rfl rfl (U_move rfl) rfl rfl ?_
  refine Rv rfl rfl rfl (U_move rfl) rfl rfl ?_
  refine Rv rfl rfl rfl (U_neqE (a := (plnE [1] 4)) (b := 13) rfl rfl (by decide +kernel)) rfl rfl ?_
  refine Rv rfl rfl rfl (U_pick_f rfl rfl) rfl rfl ?_
  refine Rv rfl rfl rfl (U_move rfl) rfl rfl ?_
  refine Rv rfl rfl rfl (U_move rfl) rfl rfl ?_
  refine Rv rfl rfl rfl (U_neqE (a := (chkK [1, 4])) (b := 0) rfl rfl (by decide +kernel)) rfl rfl ?_
  refine Rv rfl rfl rfl (U_pick_f rfl rfl) rfl rfl ?_
  refine Rv rfl rfl rfl (U_move rfl) rfl rfl ?_
  refine Rv rfl rfl rfl (U_move rfl) rfl rfl ?_
  refine Rv rfl rfl rfl (U_neqE (a := (chE [1, 4] [0, 1, 1, 1, 1, 1, 1, 1])) (b := 0) rfl rfl (by decide +kernel)) rfl rfl ?_
  refine Rv rfl rfl rfl (U_pick_f rfl rfl) rfl rfl ?_
  refine Rv rfl rfl rfl (U_move rfl) rfl rfl ?_
  refine Rv rfl rfl rfl (U_move rfl) rfl rfl ?_
  refine Rv rfl rfl rfl (U_neqE (a := (chE [1, 4] [0, 1, 2, 3, 1, 2, 4, 2])) (b := 14) rfl rfl (by decide +kernel)) rfl rfl ?_
  refine Rv rfl rfl rfl (U_pick_f rfl rfl) rfl rfl ?_
  refine Rv rfl rfl rfl (U_move rfl) rfl rfl ?_
  refine Rv rfl rfl rfl (U_move rfl) rfl rfl ?_
  refine Rv rfl rfl rfl (U_neqE (a := (chkP (⟨2, [1, 0, 0, 0]⟩ : Pl))) (b := 0) rfl rfl (by decide +kernel)) rfl rfl ?_
  refine Rv rfl rfl rfl (U_pick_f rfl rfl) rfl rfl ?_
  refine Rv rfl rfl rfl (U_move rfl) rfl rfl ?_
  refine Rv rfl rfl rfl (U_move rfl) rfl rfl ?_
  refine Rv rfl rfl rfl (U_neqE (a := (leaE (⟨2, [1, 0, 0, 0]⟩ : Pl) [1, 4])) (b := 0) rfl rfl (by decide +kernel)) rfl rfl ?_
  refine Rv rfl rfl rfl (U_pick_f rfl rfl) rfl rfl ?_
  refine Rv rfl rfl rfl (U_move rfl) rfl rfl ?_
  refine Rv rfl rfl rfl (U_move rfl) rfl rfl ?_
  refine Rv rfl rfl rfl (U_neqE (a := (alkE (⟨2, [1, 0, 0, 0]⟩ : Pl) (⟨2, [0, 1, 0, 0]⟩ : Pl) [4])) (b := 0) rfl rfl (by decide +kernel)) rfl rfl ?_
  refine Rv rfl rfl rfl (U_pick_f rfl rfl) rfl rfl ?_
  refine Rv rfl rfl rfl (U_move rfl) rfl rfl ?_
  refine Rv rfl rfl rfl (U_move rfl) rfl rfl ?_
  refine Rv rfl rfl rfl (U_neqE (a := (alkE (⟨2, [1, 0, 0, 0]⟩ : Pl) (⟨2, [0, 1, 0, 0]⟩ : Pl) [2])) (b := 5) rfl rfl (by decide +kernel)) rfl rfl ?_
  refine Rv rfl rfl rfl (U_pick_f rfl rfl) rfl rfl ?_
  refine Rv rfl rfl rfl (U_move rfl) rfl rfl ?_
  refine Rv rfl rfl rfl (U_move rfl) rfl rfl ?_
  refine Rv rfl rfl rfl (U_neqE (a := (ciE 2 7)) (b := 0) rfl rfl (by decide +kernel)) rfl rfl ?_
  refine Rv rfl rfl rfl (U_pick_f rfl rfl) rfl rfl ?_
  refine Rv rfl rfl rfl (U_move rfl) rfl rfl ?_
  refine Rv rfl rfl rfl (U_move rfl) rfl rfl ?_
  refine Rv rfl rfl rfl (U_neqE (a := (cntE 2 2 [1])) (b := 0) rfl rfl (by decide +kernel)) rfl rfl ?_
  refine Rv rfl rfl rfl (U_pick_f rfl rfl) rfl rfl ?_
  refine Re rfl ?_
  refine thenQ_n ?_
  refine Wcond rfl rfl (fun h => nomatch h) (fun _ => ?_)
  refine W_skip rfl ?_
  refine thenQ_n ?_
  refine W_seq rfl ?_
  refine Wdraw rfl (by kernel_rfl) (by kernel_rfl) ?_
  refine Dv rfl rfl rfl (U_load2 rfl rfl rfl rfl) rfl rfl ?_
  refine Dv rfl rfl rfl (U_load2 rfl rfl rfl rfl) rfl rfl ?_
  refine Dv rfl rfl rfl (U_call rfl rfl (samT_p (mvR (⟨2, [1, 0, 0, 0]⟩ : Pl) 1) (⟨2, [0, 1, 0, 0]⟩ : Pl) none (some 4) (by first | assumption | omega | exact Sz.le | (simp; done) | (simp; omega)) (by first | assumption | omega | exact Sz.le | (simp; done) | (simp; omega)) (by decide +kernel)) rfl) rfl rfl ?_
  refine Dv rfl rfl rfl (U_move rfl) rfl rfl ?_
  refine Dv rfl rfl rfl (U_move rfl) rfl rfl ?_
  refine Dv rfl rfl rfl (U_eqlE (a := (aftR 1 4)) (b := 7) rfl rfl (by decide +kernel)) rfl rfl ?_
  refine Dv rfl rfl rfl (U_pick_t rfl rfl) rfl rfl ?_
  refine Dv rfl rfl rfl (U_move rfl) rfl rfl ?_
  refine Dv rfl rfl rfl (U_move rfl) rfl rfl ?_
  refine Dv rfl rfl rfl (U_eqlE (a := (invR 1)) (b := 3) rfl rfl (by decide +kernel)) rfl rfl ?_
  refine Dv rfl rfl rfl (U_pick_t rfl rfl) rfl rfl ?_
  refine Dv rfl rfl rfl (U_move rfl) rfl rfl ?_
  refine Dv rfl rfl rfl (U_move rfl) rfl rfl ?_
  refine Dv rfl rfl rfl (U_buildSliceF (by rfl) (by decide) rfl rfl rfl) rfl rfl ?_
  refine Dv rfl rfl rfl (U_call rfl rfl (of_p [0, 2, 4, 6] (some 4)) rfl) rfl rfl ?_
  refine Dv rfl rfl rfl (U_call rfl rfl (intsT_p (reaR [2, 4]) [0, 2, 4, 6] none (some 4) (by first | assumption | omega | exact Sz.le | (simp; done) | (simp; omega)) (by first | assumption | omega | exact Sz.le | (simp; done) | (simp; omega)) (by decide +kernel)) rfl) rfl rfl ?_
  refine Dv rfl rfl rfl (U_pick_t rfl rfl) rfl rfl ?_
  refine Dv rfl rfl rfl (U_move rfl) rfl rfl ?_
  refine Dv rfl rfl rfl (U_move rfl) rfl rfl ?_
  refine Dv rfl rfl rfl (U_eqlE (a := (cplR [1, 4] [4, 1, 4])) (b := 3) rfl rfl (by decide +kernel)) rfl rfl ?_
  refine Dv rfl rfl rfl (U_pick_t rfl rfl) rfl rfl ?_
  refine Dv rfl rfl rfl (U_move rfl) rfl rfl ?_
  refine Dv rfl rfl rfl (U_move rfl) rfl rfl ?_
  refine Dv rfl rfl rfl (U_buildSliceF (by rfl) (by decide) rfl rfl rfl) rfl rfl ?_
  refine Dv rfl rfl rfl (U_call rfl rfl (of_p [1, 4] (some 2)) rfl) rfl rfl ?_
  refine Dv rfl rfl rfl (U_call rfl rfl (intsT_p (plnR [1, 4] 7) [1, 4] none (some 2) (by first | assumption | omega | exact Sz.le | (simp; done) | (simp; omega)) (by first | assumption | omega | exact Sz.le | (simp; done) | (simp; omega)) (by decide +kernel)) rfl) rfl rfl ?_
  refine Dv rfl rfl rfl (U_pick_t rfl rfl) rfl rfl ?_
  refine Dv rfl rfl rfl (U_move rfl) rfl rfl ?_
  refine Dv rfl rfl rfl (U_move rfl) rfl rfl ?_
  refine Dv rfl rfl rfl (U_buildSliceF (by rfl) (by decide) rfl rfl rfl) rfl rfl ?_
  refine Dv rfl rfl rfl (U_call rfl rfl (of_p [0, 1, 2, 3, 1, 2, 3, 2] (some 8)) rfl) rfl rfl ?_
  refine Dv rfl rfl rfl (U_call rfl rfl (intsMT_p (heiR [1, 4]) [0, 1, 2, 3, 1, 2, 3, 2] none (some 8) (by first | assumption | omega | exact Sz.le | (simp; done) | (simp; omega)) (by first | assumption | omega | exact Sz.le | (simp; done) | (simp; omega)) (by decide +kernel)) rfl) rfl rfl ?_
  refine Dv rfl rfl rfl (U_pick_t rfl rfl) rfl rfl ?_
  refine Dv rfl rfl rfl (U_move rfl) rfl rfl ?_
  refine Dv rfl rfl rfl (U_move rfl) rfl rfl ?_
  refine Dv rfl rfl rfl (U_buildSliceF (by rfl) (by decide) rfl rfl rfl) rfl rfl ?_
  refine Dv rfl rfl rfl (U_call rfl rfl (of_p [0, 7] (some 2)) rfl) rfl rfl ?_
  refine Dv rfl rfl rfl (U_call rfl rfl (intsT_p (staR (⟨2, [1, 0, 0, 0]⟩ : Pl)) [0, 7] none (some 2) (by first | assumption | omega | exact Sz.le | (simp; done) | (simp; omega)) (by first | assumption | omega | exact Sz.le | (simp; done) | (simp; omega)) (by decide +kernel)) rfl) rfl rfl ?_
  refine Dv rfl rfl rfl (U_pick_t rfl rfl) rfl rfl ?_
  refine Dv rfl rfl rfl (U_move rfl) rfl rfl ?_
  refine Dv rfl rfl rfl (U_load2 rfl rfl rfl rfl) rfl rfl ?_
  refine Dv rfl rfl rfl (U_buildSliceF (by rfl) (by decide) rfl rfl rfl) rfl rfl ?_
  refine Dv rfl rfl rfl (U_call rfl rfl (square_p 2 [0, 0, 0, 1] (some 4)) rfl) rfl rfl ?_
  refine Dv rfl rfl rfl (U_call rfl rfl (samT_p (leaP (⟨2, [1, 0, 0, 0]⟩ : Pl) [1, 4]) (⟨2, [0, 0, 0, 1]⟩ : Pl) none (some 4) (by first | assumption | omega | exact Sz.le | (simp; done) | (simp; omega)) (by first | assumption | omega | exact Sz.le | (simp; done) | (simp; omega)) (by decide +kernel)) rfl) rfl rfl ?_
  refine Dv rfl rfl rfl (U_pick_t rfl rfl) rfl rfl ?_
  refine Dv rfl rfl rfl (U_move rfl) rfl rfl ?_
  refine Dv rfl rfl rfl (U_move rfl) rfl rfl ?_
  refine Dv rfl rfl rfl (U_eqlE (a := (leaM (⟨2, [1, 0, 0, 0]⟩ : Pl) [1, 4])) (b := 2) rfl rfl (by decide +kernel)) rfl rfl ?_
  refine Dv rfl rfl rfl (U_pick_t rfl rfl) rfl rfl ?_
  refine Dv rfl rfl rfl (U_move rfl) rfl rfl ?_
  refine Dv rfl rfl rfl (U_move rfl) rfl rfl ?_
  refine Dv rfl rfl rfl (U_eqlE (a := (alkM (⟨2, [1, 0, 0, 0]⟩ : Pl) (⟨2, [0, 1, 0, 0]⟩ : Pl) [4])) (b := 4) rfl rfl (by decide +kernel)) rfl rfl ?_
  refine Dv rfl rfl rfl (U_pick_t rfl rfl) rfl rfl ?_
  refine Dv rfl rfl rfl (U_move rfl) rfl rfl ?_
  refine Dv rfl rfl rfl (U_move rfl) rfl rfl ?_
  refine Dv rfl rfl rfl (U_eqlE (a := ((ciR 2 7 : Nat) : Int)) (b := 3) rfl rfl (by decide +kernel)) rfl rfl ?_
  refine Dv rfl rfl rfl (U_pick_t rfl rfl) rfl rfl ?_
  refine Dv rfl rfl rfl (U_move rfl) rfl rfl ?_
  refine Dv rfl rfl rfl (U_move rfl) rfl rfl ?_
  refine Dv rfl rfl rfl (U_eqlE (a := (cntR 2 2 [1])) (b := 6) rfl rfl (by decide +kernel)) rfl rfl ?_
  refine Dv rfl rfl rfl (U_pick_t rfl rfl) rfl rfl ?_
  refine Dv rfl rfl rfl (U_assign rfl) rfl rfl ?_
  refine Dr.nil rfl ?_
  refine thenQ_n ?_
  refine W_ret rfl ?_
  exact retL (rlT rfl rl0) rfl rfl
end Go.Proofs.Ythoodfiacfmhgaa
end

section
/- What the inputs of this seat's statements read as. -/
namespace Go.Proofs.Ythoodfiacfmhgaa
open Go Go.AE Go.Proofs
/-- A number that fits 64 bits. -/
abbrev I64 (n : Int) : Prop := IntKind.i64.min ≤ n ∧ n ≤ IntKind.i64.max
theorem rd3 : Reads Try.prog 3 fun vs => ∃ n, I64 n ∧ vs = [i64 n] := Reads.int Try.underlying3
theorem rd5 : Reads Try.prog 5 fun vs => ∃ n, (0 ≤ n ∧ n ≤ 255) ∧ vs = [.int .u8 n] := Reads.int Try.underlying5
theorem rd5b : Reads Try.prog 5 fun vs => ∃ n : Nat, n < 256 ∧ vs = [b8 n] := rd5.mono fun vs ⟨n, h, e⟩ => ⟨n.toNat, by omega, by rw [e]; simp only [b8]; rw [Int.toNat_of_nonneg h.1]⟩
theorem all_map {α : Type} {f : α → List AV} {Q : α → Prop} : ∀ {ls : List (List AV)}, (∀ l ∈ ls, ∃ x, Q x ∧ l = f x) → ∃ xs : List α, (∀ x ∈ xs, Q x) ∧ ls = xs.map f
  | [], _ => ⟨[], by simp, rfl⟩
  | l :: ls, h => by
    obtain ⟨x, hx, rfl⟩ := h l List.mem_cons_self
    obtain ⟨xs, h1, rfl⟩ := all_map fun l hl => h l (List.mem_cons_of_mem _ hl)
    exact ⟨x :: xs, by simpa using ⟨hx, h1⟩, rfl⟩
theorem flat_one {α : Type} (f : α → AV) (l : List α) : (l.map fun n => [f n]).flatten = l.map f := by
  induction l with
  | nil => rfl
  | cons a l ih => simp [ih]
theorem rd22 : Reads Try.prog 22 fun vs => ∃ l : List Int, ((∀ e ∈ l, I64 e) ∧ l.length ≤ maxLen) ∧ vs = [intsA l none] :=
  (Reads.slice Try.underlying22 (z := 1) (by kernel_rfl) (by decide) rd3).mono fun vs ⟨ls, h, hn, e⟩ => by
    obtain ⟨xs, h1, rfl⟩ := all_map h
    exact ⟨xs, ⟨h1, by simpa using hn⟩, by rw [e, flat_one, List.length_map]⟩
theorem rd53 : Reads Try.prog 53 fun vs => ∃ l : List Nat, ((∀ e ∈ l, e < 256) ∧ l.length ≤ maxLen) ∧ vs = [bytesA l none] :=
  (Reads.slice Try.underlying53 (z := 1) (by kernel_rfl) (by decide) rd5b).mono fun vs ⟨ls, h, hn, e⟩ => by
    obtain ⟨xs, h1, rfl⟩ := all_map h
    exact ⟨xs, ⟨h1, by simpa using hn⟩, by rw [e, flat_one, List.length_map]⟩
theorem inp3 : ArgR Try.prog 3 fun a => ∃ n, I64 n ∧ a = i64 n := ArgR.int Try.underlying3
theorem inp5a : ArgR Try.prog 5 fun a => ∃ n, (0 ≤ n ∧ n ≤ 255) ∧ a = .int .u8 n := ArgR.int Try.underlying5
theorem inp5 : ArgR Try.prog 5 fun a => ∃ n : Nat, n < 256 ∧ a = .int .u8 (n : Nat) :=
  inp5a.mono fun a ⟨n, h, e⟩ => ⟨n.toNat, by omega, by rw [e, Int.toNat_of_nonneg h.1]⟩
theorem inp22 : ArgR Try.prog 22 fun a => ∃ l : List Int, ((∀ e ∈ l, I64 e) ∧ l.length ≤ maxLen) ∧ a = intsA l none :=
  ArgR.slice Try.underlying22 (rd22.mono fun _ ⟨l, h, e⟩ => ⟨_, ⟨l, h, rfl⟩, e⟩)
theorem inp53 : ArgR Try.prog 53 fun a => ∃ l : List Nat, ((∀ e ∈ l, e < 256) ∧ l.length ≤ maxLen) ∧ a = bytesA l none :=
  ArgR.slice Try.underlying53 (rd53.mono fun _ ⟨l, h, e⟩ => ⟨_, ⟨l, h, rfl⟩, e⟩)
theorem inp24 : ArgR Try.prog 24 fun a => ∃ p : Pl, (I64 p.n ∧ (∀ e ∈ p.ds, I64 e) ∧ p.ds.length ≤ maxLen) ∧ a = .agg [i64 p.n, intsA p.ds none] :=
  (ArgR.struct Try.underlying24 (Reads.struct Try.underlying24 (As := [_, _]) ⟨by kernel_rfl, rd3, by kernel_rfl, rd22, by kernel_rfl, rfl⟩)).mono fun v ⟨vs, ⟨ls, h, e⟩, e'⟩ => by
    obtain ⟨_, _, rfl, ⟨a, ha, rfl⟩, _, _, rfl, ⟨l, hl, rfl⟩, rfl⟩ := h
    exact ⟨⟨a, l⟩, ⟨ha, hl⟩, by rw [e', e]; rfl⟩
end Go.Proofs.Ythoodfiacfmhgaa
end
