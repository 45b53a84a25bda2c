import Derived.Test.YthmibifghihdaaaM5
set_option linter.all false
section
namespace Go.Proofs.Ythmibifghihdaaa
set_option maxRecDepth 20000
open Go.AE
theorem chkB_ok {b : Bk} (h : chkB b = 0) : ∃ (n : Nat) (ks : List (Nat × Nat)), b = ⟨n, ks.map cP⟩ ∧ VB n ks ∧ ks.length ≤ 40 := by
  unfold chkB at h
  split at h
  · omega
  · rename_i h1
    split at h
    · omega
    · rename_i h2
      have h1' : (1 ≤ b.n ∧ b.n ≤ 10) ∧ b.ls.length ≤ 40 := by simp [inL1] at h1; omega
      have h2' : ∀ p ∈ b.ls, (0 ≤ p.1 ∧ p.1 < b.n) ∧ (0 ≤ p.2 ∧ p.2 < b.n) ∧ p.1 ≠ p.2 := by
        intro p hp
        have : strB b.n p = false := by
          cases e : strB b.n p with
          | false => rfl
          | true => exact absurd (List.any_eq_true.2 ⟨p, hp, e⟩) h2
        rw [strB_eq] at this; simp [staB] at this; omega
      refine ⟨b.n.toNat, b.ls.map fun p => (p.1.toNat, p.2.toNat), ?_, ⟨by omega, by omega, by simp; omega, fun p hp => ?_⟩, by simp; omega⟩
      · obtain ⟨n, ls⟩ := b
        simp only at h1' h2'
        have e1 : ((n.toNat : Nat) : Int) = n := by omega
        have e2 : (ls.map fun p => (p.1.toNat, p.2.toNat)).map cP = ls := by
          rw [List.map_map]
          refine (List.map_congr_left fun p hp => ?_).trans (List.map_id _)
          have := h2' p hp
          refine Prod.ext ?_ ?_ <;> simp [cP] <;> omega
        rw [e1, e2]
      · obtain ⟨q, hq, rfl⟩ := List.mem_map.1 hp
        have := h2' q hq
        refine ⟨?_, ?_, ?_⟩ <;> simp only <;> omega
end Go.Proofs.Ythmibifghihdaaa
end

section
namespace Go.Proofs.Ythmibifghihdaaa
set_option maxRecDepth 20000
open Go.AE
section
variable {n : Nat} {ks : List (Nat × Nat)} {m : Nat}
theorem nxB_R (hv : VB n ks) {bf : Nat → Nat} (hb : ∀ a x, (bf a).testBit x = true ↔ (x, a) ∈ ks) {m a : Nat} (h : nxB (briQ n ks) m a = true) : nxR bf m a = true := by
  rw [nxR_iff hb]
  have := (nxB_iff hv).1 h
  exact ⟨this.1, fun x hx => this.2 x (.one hx)⟩
theorem en_same (hv : VB n ks) {bf : Nat → Nat} (hb : ∀ a x, (bf a).testBit x = true ↔ (x, a) ∈ ks) : ∀ (k m : Nat), cntN n m + k = n → m < 2 ^ n → DC ks m → en n (nxB (briQ n ks)) m = en n (nxR bf) m
  | 0, m, h, hm, _ => by
    have e : m = full n := Classical.byContradiction fun e => by have := cnt_lt hm e; omega
    subst e; rw [en_full, en_full]
  | k + 1, m, h, hm, hd => by
    by_cases e : m = full n
    · subst e; rw [en_full, en_full]
    · rw [en_eq (nxB_nxt _) hm e, en_eq (nxR_nxt _) hm e]
      refine sum_congr fun a ha => ?_
      rw [nx_same hv hb hd]
      split
      · rename_i h1
        have h2 := nxR_nxt _ _ _ h1
        have h3 := cnt_ad (List.mem_range.1 ha) h2
        exact en_same hv hb k _ (by omega) (ad_lt hm (List.mem_range.1 ha)) (dc_ad hd ((nxR_iff hb).1 h1).2)
      · rfl
end
end Go.Proofs.Ythmibifghihdaaa
end

section
namespace Go.Proofs.Ythmibifghihdaaa
set_option maxRecDepth 20000
open Go.AE
theorem idx_at {q : List Nat} (hn : q.Nodup) {i : Nat} (hi : i < q.length) : idxI (fun y => decide (q[i] = y)) q = i :=
  idx_hit hi (fun j hj h => by
    have := List.pairwise_iff_getElem.1 hn j i hj hi h
    simp; exact fun e => this e.symm) (by simp)
end Go.Proofs.Ythmibifghihdaaa
end

section
namespace Go.Proofs.Ythmibifghihdaaa
set_option maxRecDepth 20000
open Go.AE
theorem bfL_S {n : Nat} {ks : List (Nat × Nat)} {k : Nat} (h : k < ks.length) : bfL n (ks.take (k + 1)) = (bfL n (ks.take k)).set ks[k].2 ((bfL n (ks.take k)).getD ks[k].2 0 ||| 1 <<< ks[k].1) := by
  unfold bfL; rw [List.take_succ_eq_append_getElem h, List.foldl_append]; rfl
theorem bf_ok : ∀ (ks : List (Nat × Nat)) (o : List Nat), (∀ x ∈ o, x < 1024) → (∀ p ∈ ks, p.1 < 10) → (ks.foldl (fun o p => o.set p.2 (o.getD p.2 0 ||| 1 <<< p.1)) o).length = o.length ∧ ∀ x ∈ ks.foldl (fun o p => o.set p.2 (o.getD p.2 0 ||| 1 <<< p.1)) o, x < 1024
  | [], o, h, _ => ⟨rfl, h⟩
  | p :: ks, o, h, hk => by
    have h1 : o.getD p.2 0 < 1024 := by
      by_cases e : p.2 < o.length
      · rw [getD_eq e]; exact h _ (List.getElem_mem _)
      · rw [List.getD_eq_getElem?_getD, List.getElem?_eq_none (by omega)]; decide
    have := bf_ok ks (o.set p.2 (o.getD p.2 0 ||| 1 <<< p.1)) (fun x hx => by
      rcases List.mem_or_eq_of_mem_set hx with hx | rfl
      · exact h x hx
      · exact or1024 h1 (shl1024 (hk p (by simp)))) fun q hq => hk q (by simp [hq])
    rw [List.length_set] at this
    exact this
section
variable {n : Nat} {ks : List (Nat × Nat)}
theorem bfL_len (hv : VB n ks) (k : Nat) : (bfL n (ks.take k)).length = n := by
  have := (bf_ok (ks.take k) (List.replicate n 0) (by simp) fun p hp => (vb10 hv p (List.mem_of_mem_take hp)).1).1
  simpa [bfL] using this
theorem bfL_lt (hv : VB n ks) (k : Nat) : ∀ x ∈ bfL n (ks.take k), x < 1024 := (bf_ok (ks.take k) (List.replicate n 0) (by simp) fun p hp => (vb10 hv p (List.mem_of_mem_take hp)).1).2
theorem bfL_len' (hv : VB n ks) : (bfL n ks).length = n := by have := bfL_len hv ks.length; rwa [List.take_length] at this
theorem bfL_lt' (hv : VB n ks) : ∀ x ∈ bfL n ks, x < 1024 := by have := bfL_lt hv ks.length; rwa [List.take_length] at this
end
section
variable {n : Nat} {nx : Nat → Nat → Bool}
def upK (n : Nat) (nx : Nat → Nat → Bool) (s k : Nat) : List Nat := (List.range (1 <<< n)).map fun j => Wp n nx s j + ((List.range k).map fun a => if (nx s a && decide (ad s a = j)) = true then up n nx s else 0).sum
theorem upK_len {s k : Nat} : (upK n nx s k).length = 1 <<< n := by simp [upK]
theorem upK_at {s k j : Nat} (h : j < (upK n nx s k).length) : (upK n nx s k)[j] = Wp n nx s j + ((List.range k).map fun a => if (nx s a && decide (ad s a = j)) = true then up n nx s else 0).sum := by simp [upK]
theorem upK_0 : (List.replicate (1 <<< n) 0).set 0 1 = upK n nx 0 0 := by
  refine List.ext_getElem (by simp [upK]) fun j h1 h2 => ?_
  rw [upK_at, List.getElem_set, Wp_0]
  by_cases e : j = 0
  · subst e; simp
  · simp [e, show ¬ 0 = j by omega]
theorem upK_all (hx : Nxt nx) {s : Nat} : upK n nx s n = upK n nx (s + 1) 0 := by
  refine List.ext_getElem (by simp [upK]) fun j h1 h2 => ?_
  rw [upK_at, upK_at, Wp_S hx]; simp
theorem upK_self (hx : Nxt nx) {s k : Nat} (hs : s < 2 ^ n) (h : s < (upK n nx s k).length) : (upK n nx s k)[s] = up n nx s := by
  rw [upK_at, Wp_end hs (Nat.le_refl _)]
  have : ((List.range k).map fun a => if (nx s a && decide (ad s a = s)) = true then up n nx s else 0) = (List.range k).map fun _ => 0 := List.map_congr_left fun a _ => by
    rw [if_neg]
    intro h
    simp only [Bool.and_eq_true, decide_eq_true_eq] at h
    have := ad_gt (hx _ _ h.1); omega
  rw [this]
  have e : ∀ (l : List Nat), (l.map fun _ => 0).sum = 0 := fun l => by induction l with | nil => rfl | cons x l ih => simpa using ih
  rw [e]; omega
theorem upK_T (hx : Nxt nx) {s k : Nat} (hs : s < 2 ^ n) (h : nx s k = true) {u v : Nat} (hi : ad s k < (upK n nx s k).length) (hu : u = (upK n nx s k)[ad s k]) (hv : v = up n nx s) : (upK n nx s k).set (ad s k) (u + v) = upK n nx s (k + 1) := by
  refine List.ext_getElem (by simp [upK]) fun j h1 h2 => ?_
  rw [List.getElem_set]
  split
  · rename_i e; subst e
    rw [hu, hv, upK_at, upK_at, List.range_succ, List.map_append, List.sum_append]; simp [h]; omega
  · rename_i e
    rw [upK_at, upK_at, List.range_succ, List.map_append, List.sum_append]; simp [e]
theorem upK_F {s k : Nat} (h : nx s k = false) : upK n nx s k = upK n nx s (k + 1) := by
  refine List.ext_getElem (by simp [upK]) fun j h1 h2 => ?_
  rw [upK_at, upK_at, List.range_succ, List.map_append, List.sum_append]; simp [h]
theorem upK_le (hn : n ≤ 10) (hx : Nxt nx) {s k j : Nat} (hk : k ≤ n) (hj : j < 2 ^ n) (h : j < (upK n nx s k).length) : (upK n nx s k)[j] ≤ 3628800 := by
  rw [upK_at]
  have h1 := Wp_mono (nx := nx) (s := s + 1) hj
  rw [Wp_S hx] at h1
  have h2 : ((List.range k).map fun a => if (nx s a && decide (ad s a = j)) = true then up n nx s else 0).sum ≤ ((List.range n).map fun a => if (nx s a && decide (ad s a = j)) = true then up n nx s else 0).sum := by
    obtain ⟨d, rfl⟩ : ∃ d, n = k + d := ⟨n - k, by omega⟩
    rw [List.range_add, List.map_append, List.sum_append]; omega
  exact Nat.le_trans (Nat.le_trans (Nat.add_le_add_left h2 _) h1) (up_lt hn hj)
theorem upK_end {j : Nat} (hj : j < 2 ^ n) (h : j < (upK n nx (1 <<< n) 0).length) : (upK n nx (1 <<< n) 0)[j] = up n nx j := by
  rw [upK_at, Wp_end hj (by rw [one_shl]; omega)]; simp
def enR (n : Nat) (nx : Nat → Nat → Bool) (m k : Nat) : Nat := if m = full n then 1 else enP n nx m ((List.range k).filter (nx m))
def enK (n : Nat) (nx : Nat → Nat → Bool) (m k : Nat) : List Nat := (enV n nx (m + 1)).set m (enR n nx m k)
theorem enK_len {m k : Nat} : (enK n nx m k).length = 1 <<< n := by simp [enK, enV_len]
theorem enK_0 {m : Nat} (hm : m < 2 ^ n) : enK n nx m 0 = enV n nx (min (m + 1) (full n)) := by
  refine List.ext_getElem (by simp [enK, enV_len]) fun j h1 h2 => ?_
  have hj : j < 2 ^ n := by rw [enK_len] at h1; rwa [← one_shl (n := n)]
  have hf : full n = 2 ^ n - 1 := rfl
  simp only [enK]
  rw [List.getElem_set]
  split
  · rename_i e; subst e
    rw [enV_at]
    unfold enR
    split
    · rename_i e2; rw [if_pos (by omega)]; conv => rhs; rw [e2]
      exact en_full.symm
    · rename_i e2; rw [if_neg (by omega)]; rfl
  · rename_i e
    rw [enV_at, enV_at]
    by_cases h3 : m + 1 ≤ j
    · rw [if_pos h3, if_pos (by omega)]
    · rw [if_neg h3, if_neg (by omega)]
theorem enR_all (hx : Nxt nx) {m : Nat} (hm : m < 2 ^ n) : enR n nx m n = en n nx m := by
  unfold enR
  split
  · rename_i e; subst e; exact en_full.symm
  · rename_i e
    rw [enP, sum_filter, en_eq hx hm e]
theorem enK_all (hx : Nxt nx) {m : Nat} (hm : m < 2 ^ n) : enK n nx m n = enV n nx (min m (full n)) := by
  rw [enK, enR_all hx hm, enV_set]
  have : full n = 2 ^ n - 1 := rfl
  rw [Nat.min_eq_left (by omega)]
theorem enR_T {m k : Nat} (hne : m ≠ full n) (h : nx m k = true) : enR n nx m (k + 1) = enR n nx m k + en n nx (ad m k) := by
  unfold enR
  rw [if_neg hne, if_neg hne, List.range_succ, List.filter_append]
  simp [enP, h]
theorem enR_F {m k : Nat} (h : nx m k = false) : enR n nx m (k + 1) = enR n nx m k := by
  unfold enR
  rw [List.range_succ, List.filter_append]
  simp [h]
theorem enK_T {m k : Nat} (hne : m ≠ full n) (h : nx m k = true) {u v : Nat} (hu : u = enR n nx m k) (hv : v = en n nx (ad m k)) : (enK n nx m k).set m (u + v) = enK n nx m (k + 1) := by
  rw [hu, hv, ← enR_T hne h, enK, enK, List.set_set]
theorem enK_F {m k : Nat} (h : nx m k = false) : enK n nx m k = enK n nx m (k + 1) := by rw [enK, enK, enR_F h]
theorem enR_le (hn : n ≤ 10) (hx : Nxt nx) {m k : Nat} (hm : m < 2 ^ n) (hk : k ≤ n) : enR n nx m k ≤ 3628800 := by
  have h1 := en_lt hx hn hm
  rw [← enR_all hx hm] at h1
  have h2 : enR n nx m k ≤ enR n nx m n := by
    unfold enR
    split
    · exact Nat.le_refl _
    · obtain ⟨d, rfl⟩ : ∃ d, n = k + d := ⟨n - k, by omega⟩
      rw [List.range_add, List.filter_append, enP, enP, List.map_append, List.sum_append]; omega
  omega
theorem enK_at1 {m k : Nat} (h : m < (enK n nx m k).length) : (enK n nx m k)[m] = enR n nx m k := by simp [enK]
theorem enK_at2 {m k j : Nat} (h : m < j) (hj : j < (enK n nx m k).length) : (enK n nx m k)[j] = en n nx j := by
  simp only [enK]
  rw [List.getElem_set_ne (by omega), enV_at, if_pos (by omega)]
theorem nx_full (hx : Nxt nx) {k : Nat} (hk : k < n) : nx (full n) k = false := by
  cases e : nx (full n) k with
  | false => rfl
  | true => have := hx _ _ e; rw [full_tb] at this; simp at this; omega
end
end Go.Proofs.Ythmibifghihdaaa
end

section
namespace Go.Proofs.Ythmibifghihdaaa
set_option maxRecDepth 20000
open Go.AE
theorem before_p (n : Nat) (ks : List (Nat × Nat)) (c : Option Nat) (hv : VB n ks) : Pure Try.prog 66 [bknA n ks c] (.ros ((bfL n ks).map n64) n none) := by
  have hv' := hv
  obtain ⟨hn1, hn, hkl, hk⟩ := hv'
  have h1024 := shl_le hn
  have h2n := shl_ge hn1
  refine pure_of_body Try.func66 (c := body Try.f66) rfl (by simp [Try.ntmps66]) fun w0 Φ0 => ?_
  refine W_seq rfl ?_
  refine W_reg rfl ?_
  refine Rv rfl rfl rfl (U_boxF rfl rfl rfl) rfl rfl ?_
  refine Rv rfl rfl rfl (U_assign rfl) rfl rfl ?_
  refine Re rfl ?_
  refine thenQ_n ?_
  refine W_seq rfl ?_
  refine W_reg rfl ?_
  refine Rv rfl rfl rfl (U_fieldAddrR rfl) rfl rfl ?_
  refine Rv rfl rfl rfl (U_load1 rfl rfl rfl) rfl rfl ?_
  refine Ra rfl rfl rfl (U_mkL (n := n) (cs' := (List.replicate n (0 : Nat)).map n64) rfl rfl rfl (by omega) (replM rfl _)) rfl rfl rfl ?_
  refine Rv rfl rfl rfl (U_assign rfl) rfl rfl ?_
  refine Re rfl ?_
  refine thenQ_n ?_
  refine W_seq rfl ?_
  refine W_seq rfl ?_
  refine W_reg rfl ?_
  refine Rv rfl rfl rfl (U_assign rfl) rfl rfl ?_
  refine Re rfl ?_
  refine thenQ_n ?_
  refine W_block rfl ?_
  refine LoopTo (T' := [(1, .rop [i64 ((n : Nat) : Int), .ros (ks.flatMap lkN) ks.length c] 0), (3, .slice 0 0 n n), (4, i64 ((0 : Nat) : Int))]) (H' := [(0, some (.cells ((bfL n (ks.take 0)).map n64) 3))]) (n := 1) rfl (fun mz_ qz_ => ∃ (k : Nat), k ≤ ks.length ∧ mz_ = ks.length - k ∧ qz_ = ⟨[(1, .rop [i64 ((n : Nat) : Int), .ros (ks.flatMap lkN) ks.length c] 0), (3, .slice 0 0 n n), (4, i64 ((k : Nat) : Int))], [(0, some (.cells ((bfL n (ks.take k)).map n64) 3))], 1, []⟩) ⟨0, (by omega), rfl, rfl⟩ id ⟨eD rfl rfl, e_ rfl rfl, eD rfl rfl, trivial⟩ ⟨rD (mapD (fun _ => rfl) _) rfl rfl, trivial⟩ rfl rfl rfl rfl (fun _ _ => rfl) ?_
  rintro _ _ ⟨k, hi0_0, rfl, rfl⟩
  refine W_seq rfl ?_
  refine W_seq rfl ?_
  refine W_reg rfl ?_
  refine Rv rfl rfl rfl (U_move rfl) rfl rfl ?_
  refine Rv rfl rfl rfl (U_fieldAddrR rfl) rfl rfl ?_
  refine Rv rfl rfl rfl (U_load1 rfl rfl rfl) rfl rfl ?_
  refine Rv rfl rfl rfl (U_lenOf rfl len_ros) rfl rfl ?_
  refine Rv rfl rfl rfl (U_lss rfl rfl) rfl rfl ?_
  refine Re rfl ?_
  refine thenQ_n ?_
  refine WcondP rfl rfl (fun hc0 => ?_) (fun hc0 => ?_)
  · have hck : k < ks.length := by omega
    have hkp := hk _ (List.getElem_mem hck)
    have hbl := bfL_len hv k
    have hbi : ks[k].2 < (bfL n (ks.take k)).length := by omega
    have hbx : (bfL n (ks.take k))[ks[k].2] < 1024 := bfL_lt hv k _ (List.getElem_mem _)
    refine W_skip rfl ?_
    refine thenQ_n ?_
    refine W_seq rfl ?_
    refine W_block rfl ?_
    refine Wdraw rfl (by kernel_rfl) (by kernel_rfl) ?_
    refine Dv rfl rfl rfl (U_move rfl) rfl rfl ?_
    refine Dv rfl rfl rfl (U_fieldAddrR rfl) rfl rfl ?_
    refine Dv rfl rfl rfl (U_load1 rfl rfl rfl) rfl rfl ?_
    refine Dv rfl rfl rfl (U_move rfl) rfl rfl ?_
    have hx1 : k < ks.length := by omega
    refine Dv rfl rfl rfl (U_indexR (j := k) rfl rfl rfl hx1) rfl rfl ?_
    refine Dv rfl rfl rfl (U_indexAR (j := 1) rfl rfl rfl (by decide)) rfl rfl ?_
    refine Dv rfl rfl rfl (U_load1 rfl rfl (lkH1 hx1)) rfl rfl ?_
    have hx2 : ks[k].2 < (bfL n (ks.take k)).length := by omega
    refine Dv rfl rfl rfl (U_indexS (j := ks[k].2) rfl rfl rfl (by omega)) rfl rfl ?_
    refine Dv rfl rfl rfl (U_load1 rfl rfl (getM0 hx2)) rfl rfl ?_
    refine Dv rfl rfl rfl (U_fieldAddrR rfl) rfl rfl ?_
    refine Dv rfl rfl rfl (U_load1 rfl rfl rfl) rfl rfl ?_
    refine Dv rfl rfl rfl (U_move rfl) rfl rfl ?_
    refine Dv rfl rfl rfl (U_indexR (j := k) rfl rfl rfl hx1) rfl rfl ?_
    refine Dv rfl rfl rfl (U_indexAR (j := 0) rfl rfl rfl (by decide)) rfl rfl ?_
    refine Dv rfl rfl rfl (U_load1 rfl rfl (lkH0 hx1)) rfl rfl ?_
    refine Dv rfl rfl rfl (U_shl rfl rfl (by omega) (shlN (n := 1) (i := ks[k].1) (shl63 (by omega)) (by omega))) rfl rfl ?_
    refine Dv rfl rfl rfl (U_or rfl rfl (orN (a := (bfL n (ks.take k))[ks[k].2]) (b := 1 <<< ks[k].1) (lt63 hbx) (lt63 (shl1024 (by omega))))) rfl rfl ?_
    refine Dv rfl rfl rfl (U_indexS (j := ks[k].2) rfl rfl rfl (by omega)) rfl rfl ?_
    refine Dn_ rfl rfl rfl (U_store (n := 1) (cs' := ((bfL n (ks.take k)).set ks[k].2 (((bfL n (ks.take k))[ks[k].2]) ||| (1 <<< ks[k].1))).map n64) rfl rfl rfl rfl rfl (stLt hx2) rfl setM) rfl rfl ?_
    refine Dr.nil rfl ?_
    refine blkQ_n ?_
    refine thenQ_n ?_
    refine W_reg rfl ?_
    refine Rv rfl rfl rfl (U_move rfl) rfl rfl ?_
    refine Rv rfl rfl rfl (U_add rfl rfl (w64e (m := ((k + 1 : Nat) : Int)) (by omega) (by omega) (by omega))) rfl rfl ?_
    refine Rv rfl rfl rfl (U_assign rfl) rfl rfl ?_
    refine Re rfl ?_
    refine thenQ_n ?_
    rw [← getD_eq (d := 0) hbi]
    rw [← bfL_S hck]
    exact againTo (T' := [(1, .rop [i64 ((n : Nat) : Int), .ros (ks.flatMap lkN) ks.length c] 0), (3, .slice 0 0 n n), (4, i64 (((k + 1) : Nat) : Int))]) (H' := [(0, some (.cells ((bfL n (ks.take (k + 1))).map n64) 3))]) (n := 1) (ks.length - (k + 1)) ⟨k + 1, (by omega), rfl, rfl⟩ (by omega) id ⟨eD rfl rfl, e_ rfl rfl, eD rfl rfl, trivial⟩ ⟨rD (mapD (fun _ => rfl) _) rfl rfl, trivial⟩ rfl rfl rfl rfl (fun _ _ => rfl)
  · obtain rfl : k = ks.length := by omega
    rw [List.take_length]
    refine W_exit rfl ?_
    refine thenQ_x ?_
    refine thenQ_x ?_
    refine blkQ_x rfl ?_
    refine thenQ_n ?_
    refine W_seq rfl ?_
    refine W_reg rfl ?_
    refine Rv rfl rfl rfl (U_move rfl) rfl rfl ?_
    refine Rv rfl rfl rfl (U_assign rfl) rfl rfl ?_
    refine Re rfl ?_
    refine thenQ_n ?_
    refine WfrN 0 rfl (mapD (fun _ => rfl) _) (T' := [(2, .ros ((bfL n ks).map n64) n (some n))]) (H' := []) ⟨⟨_, rfl, fr_sl (Nat.le_refl _)⟩, trivial⟩ trivial ?_
    refine WweakT (j := 2) rfl le_cap ?_
    refine W_ret rfl ?_
    exact retL (rlT rfl rl0) rfl rfl
end Go.Proofs.Ythmibifghihdaaa
end

section
namespace Go.Proofs.Ythmibifghihdaaa
set_option maxRecDepth 20000
open Go.AE
theorem ways_p (n : Nat) (ks : List (Nat × Nat)) (c : Option Nat) (hv : VB n ks) : Pure Try.prog 67 [bknA n ks c] (.tup [.ros ((upK n (nxQ n ks) (1 <<< n) 0).map n64) (1 <<< n) none, .ros ((enV n (nxQ n ks) 0).map n64) (1 <<< n) none]) := by
  have hv' := hv
  obtain ⟨hn1, hn, hkl, hk⟩ := hv'
  have h1024 := shl_le hn
  have h2n := shl_ge hn1
  have hx : Nxt (nxQ n ks) := nxR_nxt (bfN n ks)
  have hbl := bfL_len' hv
  have hmin : 1 <<< n - 1 = min (1 <<< n) (full n) := by rw [full_shl]; omega
  refine pure_of_body Try.func67 (c := body Try.f67) rfl (by simp [Try.ntmps67]) fun w0 Φ0 => ?_
  refine W_seq rfl ?_
  refine W_reg rfl ?_
  refine Rv rfl rfl rfl (U_boxF rfl rfl rfl) rfl rfl ?_
  refine Rv rfl rfl rfl (U_assign rfl) rfl rfl ?_
  refine Rv rfl rfl rfl (U_assign rfl) rfl rfl ?_
  refine Re rfl ?_
  refine thenQ_n ?_
  refine W_seq rfl ?_
  refine W_reg rfl ?_
  refine Rv rfl rfl rfl (U_load2 rfl rfl rfl rfl) rfl rfl ?_
  refine Rv rfl rfl rfl (U_call rfl rfl (before_p n ks c hv) rfl) rfl rfl ?_
  refine Rv rfl rfl rfl (U_assign rfl) rfl rfl ?_
  refine Re rfl ?_
  refine thenQ_n ?_
  refine W_seq rfl ?_
  refine W_reg rfl ?_
  refine Rv rfl rfl rfl (U_fieldAddrR rfl) rfl rfl ?_
  refine Rv rfl rfl rfl (U_load1 rfl rfl rfl) rfl rfl ?_
  refine Rv rfl rfl rfl (U_shl rfl rfl (by omega) (shlN (n := 1) (i := n) (shl63' hn) (by omega))) rfl rfl ?_
  refine Rv rfl rfl rfl (U_assign rfl) rfl rfl ?_
  refine Re rfl ?_
  refine thenQ_n ?_
  refine W_seq rfl ?_
  refine Wdraw rfl (by kernel_rfl) (by kernel_rfl) ?_
  refine Dv rfl rfl rfl (U_move rfl) rfl rfl ?_
  refine Da rfl rfl rfl (U_mkL (n := 1 <<< n) (cs' := (List.replicate (1 <<< n) (0 : Nat)).map n64) rfl rfl rfl (by omega) (replM rfl _)) rfl rfl rfl rfl ?_
  refine Dv rfl rfl rfl (U_move rfl) rfl rfl ?_
  refine Da rfl rfl rfl (U_mkL (n := 1 <<< n) (cs' := (List.replicate (1 <<< n) (0 : Nat)).map n64) rfl rfl rfl (by omega) (replM rfl _)) rfl rfl rfl rfl ?_
  refine Dv rfl rfl rfl (U_assign rfl) rfl rfl ?_
  refine Dv rfl rfl rfl (U_assign rfl) rfl rfl ?_
  refine Dr.nil rfl ?_
  refine thenQ_n ?_
  refine W_seq rfl ?_
  refine W_reg rfl ?_
  refine Rv rfl rfl rfl (U_move rfl) rfl rfl ?_
  refine Rv rfl rfl rfl (U_move rfl) rfl rfl ?_
  refine Rv rfl rfl rfl (U_move rfl) rfl rfl ?_
  refine Rv rfl rfl rfl (U_sub rfl rfl (w64e (m := ((1 <<< n - 1 : Nat) : Int)) (by omega) (by omega) (by omega))) rfl rfl ?_
  have hr0 : (List.replicate (1 <<< n) 0).length = 1 <<< n := List.length_replicate
  have hx1 : 0 < (List.replicate (1 <<< n) (0 : Nat)).length := by omega
  refine Rv rfl rfl rfl (U_indexS (j := 0) rfl rfl rfl (by omega)) rfl rfl ?_
  refine Rn rfl rfl rfl (U_store (n := 1) (cs' := ((List.replicate (1 <<< n) (0 : Nat)).set 0 1).map n64) rfl rfl rfl rfl rfl (stLt hx1) rfl setM) rfl ?_
  have hx2 : (1 <<< n - 1) < (List.replicate (1 <<< n) (0 : Nat)).length := by omega
  refine Rv rfl rfl rfl (U_indexS (j := (1 <<< n - 1)) rfl rfl rfl (by omega)) rfl rfl ?_
  refine Rn rfl rfl rfl (U_store (n := 1) (cs' := ((List.replicate (1 <<< n) (0 : Nat)).set (1 <<< n - 1) 1).map n64) rfl rfl rfl rfl rfl (stLt hx2) rfl setM) rfl ?_
  refine Re rfl ?_
  rw [upK_0 (n := n) (nx := (nxQ n ks)), enV_0 (n := n) (nx := (nxQ n ks)), hmin]
  refine thenQ_n ?_
  refine W_seq rfl ?_
  refine W_seq rfl ?_
  refine W_reg rfl ?_
  refine Rv rfl rfl rfl (U_assign rfl) rfl rfl ?_
  refine Re rfl ?_
  refine thenQ_n ?_
  refine W_block rfl ?_
  refine LoopTo (T' := [(1, .rop [i64 ((n : Nat) : Int), .ros (ks.flatMap lkN) ks.length c] 0), (4, .ros ((bfL n ks).map n64) n none), (5, i64 ((1 <<< n : Nat) : Int)), (6, .slice 0 0 (1 <<< n) (1 <<< n)), (7, .slice 1 0 (1 <<< n) (1 <<< n)), (8, i64 ((0 : Nat) : Int))]) (H' := [(0, some (.cells ((upK n (nxQ n ks) 0 0).map n64) 2)), (1, some (.cells ((enV n (nxQ n ks) (min (1 <<< n) (full n))).map n64) 2))]) (n := 2) rfl (fun mz_ qz_ => ∃ (s : Nat), s ≤ 1 <<< n ∧ mz_ = 1 <<< n - s ∧ qz_ = ⟨[(1, .rop [i64 ((n : Nat) : Int), .ros (ks.flatMap lkN) ks.length c] 0), (4, .ros ((bfL n ks).map n64) n none), (5, i64 ((1 <<< n : Nat) : Int)), (6, .slice 0 0 (1 <<< n) (1 <<< n)), (7, .slice 1 0 (1 <<< n) (1 <<< n)), (8, i64 ((s : Nat) : Int))], [(0, some (.cells ((upK n (nxQ n ks) s 0).map n64) 2)), (1, some (.cells ((enV n (nxQ n ks) (min (1 <<< n) (full n))).map n64) 2))], 2, []⟩) ⟨0, (Nat.zero_le _), rfl, rfl⟩ id ⟨eD rfl rfl, eD rfl rfl, eD rfl rfl, e_ rfl rfl, e_ rfl rfl, eD rfl rfl, trivial⟩ ⟨rD (mapD (fun _ => rfl) _) rfl rfl, rD (mapD (fun _ => rfl) _) rfl rfl, trivial⟩ rfl rfl rfl rfl (fun _ _ => rfl) ?_
  rintro _ _ ⟨s, hi0_0, rfl, rfl⟩
  refine W_seq rfl ?_
  refine W_seq rfl ?_
  refine W_reg rfl ?_
  refine Rv rfl rfl rfl (U_move rfl) rfl rfl ?_
  refine Rv rfl rfl rfl (U_move rfl) rfl rfl ?_
  refine Rv rfl rfl rfl (U_lss rfl rfl) rfl rfl ?_
  refine Re rfl ?_
  refine thenQ_n ?_
  refine WcondP rfl rfl (fun hc0 => ?_) (fun hc0 => ?_)
  · have hs : s < 2 ^ n := by rw [← one_shl (n := n)]; omega
    refine W_skip rfl ?_
    refine thenQ_n ?_
    refine W_seq rfl ?_
    refine W_block rfl ?_
    refine W_seq rfl ?_
    refine W_reg rfl ?_
    refine Rv rfl rfl rfl (U_assign rfl) rfl rfl ?_
    refine Re rfl ?_
    refine thenQ_n ?_
    refine W_block rfl ?_
    refine LoopTo (T' := [(1, .rop [i64 ((n : Nat) : Int), .ros (ks.flatMap lkN) ks.length c] 0), (4, .ros ((bfL n ks).map n64) n none), (5, i64 ((1 <<< n : Nat) : Int)), (6, .slice 0 0 (1 <<< n) (1 <<< n)), (7, .slice 1 0 (1 <<< n) (1 <<< n)), (8, i64 ((s : Nat) : Int)), (9, i64 ((0 : Nat) : Int))]) (H' := [(0, some (.cells ((upK n (nxQ n ks) s 0).map n64) 2)), (1, some (.cells ((enV n (nxQ n ks) (min (1 <<< n) (full n))).map n64) 2))]) (n := 2) rfl (fun mz_ qz_ => ∃ (k : Nat), k ≤ n ∧ mz_ = n - k ∧ qz_ = ⟨[(1, .rop [i64 ((n : Nat) : Int), .ros (ks.flatMap lkN) ks.length c] 0), (4, .ros ((bfL n ks).map n64) n none), (5, i64 ((1 <<< n : Nat) : Int)), (6, .slice 0 0 (1 <<< n) (1 <<< n)), (7, .slice 1 0 (1 <<< n) (1 <<< n)), (8, i64 ((s : Nat) : Int)), (9, i64 ((k : Nat) : Int))], [(0, some (.cells ((upK n (nxQ n ks) s k).map n64) 2)), (1, some (.cells ((enV n (nxQ n ks) (min (1 <<< n) (full n))).map n64) 2))], 2, []⟩) ⟨0, (by omega), rfl, rfl⟩ id ⟨eD rfl rfl, eD rfl rfl, eD rfl rfl, e_ rfl rfl, e_ rfl rfl, eD rfl rfl, eD rfl rfl, trivial⟩ ⟨rD (mapD (fun _ => rfl) _) rfl rfl, rD (mapD (fun _ => rfl) _) rfl rfl, trivial⟩ rfl rfl rfl rfl (fun _ _ => rfl) ?_
    rintro _ _ ⟨k, hi1_0, rfl, rfl⟩
    refine W_seq rfl ?_
    refine W_seq rfl ?_
    refine W_reg rfl ?_
    refine Rv rfl rfl rfl (U_move rfl) rfl rfl ?_
    refine Rv rfl rfl rfl (U_fieldAddrR rfl) rfl rfl ?_
    refine Rv rfl rfl rfl (U_load1 rfl rfl rfl) rfl rfl ?_
    refine Rv rfl rfl rfl (U_lss rfl rfl) rfl rfl ?_
    refine Re rfl ?_
    refine thenQ_n ?_
    refine WcondP rfl rfl (fun hc1 => ?_) (fun hc1 => ?_)
    · have hkn : k < n := by omega
      have hbi : k < (bfL n ks).length := by omega
      have hbk : bfN n ks k = (bfL n ks)[k] := getD_eq hbi
      have hbx : (bfL n ks)[k] < 1024 := bfL_lt' hv _ (List.getElem_mem _)
      have h10 : s < 1024 := by omega
      refine W_skip rfl ?_
      refine thenQ_n ?_
      refine W_seq rfl ?_
      refine W_block rfl ?_
      refine W_seq rfl ?_
      refine Wdraw rfl (by kernel_rfl) (by kernel_rfl) ?_
      refine Dv rfl rfl rfl (U_move rfl) rfl rfl ?_
      refine Dv rfl rfl rfl (U_move rfl) rfl rfl ?_
      refine Dv rfl rfl rfl (U_shr rfl rfl (by omega) (shrN (n := s) (i := k) (lt63 h10))) rfl rfl ?_
      refine Dv rfl rfl rfl (U_and rfl rfl (andN (a := s >>> k) (b := 1) (sh63 h10) (by omega))) rfl rfl ?_
      refine Dv rfl rfl rfl (U_eql rfl rfl) rfl rfl ?_
      refine Dv rfl rfl rfl (U_move rfl) rfl rfl ?_
      refine Dsplit (t := 43) rfl (fun hg3 => ?_) (fun hg3 => ?_)
      · rw [hg3]
        have hg3' : (((s >>> k) &&& 1 : Nat) : Int) = 0 := of_decide_eq_true hg3
        have hcg1 := hg3'
        refine Dv rfl rfl rfl (U_move rfl) rfl rfl ?_
        refine Dv rfl rfl rfl (U_move rfl) rfl rfl ?_
        have hx4 : k < (bfL n ks).length := by omega
        refine Dv rfl rfl rfl (U_indexR (j := k) rfl rfl rfl (by omega)) rfl rfl ?_
        refine Dv rfl rfl rfl (U_load1 rfl rfl (getM hx4)) rfl rfl ?_
        refine Dv rfl rfl rfl (U_move rfl) rfl rfl ?_
        refine Dv rfl rfl rfl (U_and rfl rfl (andN (a := (bfL n ks)[k]) (b := s) (lt63 hbx) (lt63 h10))) rfl rfl ?_
        refine Dv rfl rfl rfl (U_move rfl) rfl rfl ?_
        refine Dv rfl rfl rfl (U_move rfl) rfl rfl ?_
        refine Dv rfl rfl rfl (U_indexR (j := k) rfl rfl rfl (by omega)) rfl rfl ?_
        refine Dv rfl rfl rfl (U_load1 rfl rfl (getM hx4)) rfl rfl ?_
        refine Dv rfl rfl rfl (U_eql rfl rfl) rfl rfl ?_
        refine Dv rfl rfl rfl (U_pick_t rfl rfl) rfl rfl ?_
        refine Dr.nil rfl ?_
        refine thenQ_n ?_
        refine WcondP rfl rfl (fun hc2 => ?_) (fun hc2 => ?_)
        · have hnx : nxQ n ks s k = true := by show nxR (bfN n ks) s k = true; unfold nxR; rw [hbk, decide_eq_true hcg1, decide_eq_true hc2]; rfl
          have had : s ||| 1 <<< k < 2 ^ n := ad_lt hs hkn
          have hadl : s ||| 1 <<< k < (upK n (nxQ n ks) s k).length := by rw [upK_len, one_shl (n := n)]; exact had
          have hsl : s < (upK n (nxQ n ks) s k).length := by rw [upK_len, one_shl (n := n)]; exact hs
          have hb1 := upK_le hn hx (show k ≤ n by omega) had hadl
          have hvs : (upK n (nxQ n ks) s k)[s] = up n (nxQ n ks) s := upK_self hx hs hsl
          have hb2 : up n (nxQ n ks) s ≤ 3628800 := up_lt hn hs
          refine Wdraw rfl (by kernel_rfl) (by kernel_rfl) ?_
          refine Dv rfl rfl rfl (U_move rfl) rfl rfl ?_
          refine Dv rfl rfl rfl (U_move rfl) rfl rfl ?_
          refine Dv rfl rfl rfl (U_move rfl) rfl rfl ?_
          refine Dv rfl rfl rfl (U_shl rfl rfl (by omega) (shlN (n := 1) (i := k) (shl63 (by omega)) (by omega))) rfl rfl ?_
          refine Dv rfl rfl rfl (U_or rfl rfl (orN (a := s) (b := 1 <<< k) (lt63 h10) (lt63 (shl1024 (by omega))))) rfl rfl ?_
          have hx5 : (s ||| (1 <<< k)) < (upK n (nxQ n ks) s k).length := by omega
          refine Dv rfl rfl rfl (U_indexS (j := (s ||| (1 <<< k))) rfl rfl rfl (by omega)) rfl rfl ?_
          refine Dv rfl rfl rfl (U_load1 rfl rfl (getM0 hx5)) rfl rfl ?_
          refine Dv rfl rfl rfl (U_move rfl) rfl rfl ?_
          refine Dv rfl rfl rfl (U_move rfl) rfl rfl ?_
          have hx6 : s < (upK n (nxQ n ks) s k).length := by omega
          refine Dv rfl rfl rfl (U_indexS (j := s) rfl rfl rfl (by omega)) rfl rfl ?_
          refine Dv rfl rfl rfl (U_load1 rfl rfl (getM0 hx6)) rfl rfl ?_
          refine Dv rfl rfl rfl (U_add rfl rfl (w64e (m := ((((upK n (nxQ n ks) s k)[(s ||| (1 <<< k))]) + (upK n (nxQ n ks) s k)[s] : Nat) : Int)) (by omega) (by omega) (by omega))) rfl rfl ?_
          refine Dv rfl rfl rfl (U_indexS (j := (s ||| (1 <<< k))) rfl rfl rfl (by omega)) rfl rfl ?_
          refine Dn_ rfl rfl rfl (U_store (n := 1) (cs' := ((upK n (nxQ n ks) s k).set (s ||| (1 <<< k)) (((upK n (nxQ n ks) s k)[(s ||| (1 <<< k))]) + (upK n (nxQ n ks) s k)[s])).map n64) rfl rfl rfl rfl rfl (stLt hx5) rfl setM) rfl rfl ?_
          refine Dr.nil rfl ?_
          refine blkQ_n ?_
          refine thenQ_n ?_
          refine W_reg rfl ?_
          refine Rv rfl rfl rfl (U_move rfl) rfl rfl ?_
          refine Rv rfl rfl rfl (U_add rfl rfl (w64e (m := ((k + 1 : Nat) : Int)) (by omega) (by omega) (by omega))) rfl rfl ?_
          refine Rv rfl rfl rfl (U_assign rfl) rfl rfl ?_
          refine Re rfl ?_
          refine thenQ_n ?_
          first | rw [upK_T hx hs hnx hadl rfl hvs] | rw [upK_F hnx]
          exact againTo (T' := [(1, .rop [i64 ((n : Nat) : Int), .ros (ks.flatMap lkN) ks.length c] 0), (4, .ros ((bfL n ks).map n64) n none), (5, i64 ((1 <<< n : Nat) : Int)), (6, .slice 0 0 (1 <<< n) (1 <<< n)), (7, .slice 1 0 (1 <<< n) (1 <<< n)), (8, i64 ((s : Nat) : Int)), (9, i64 (((k + 1) : Nat) : Int))]) (H' := [(0, some (.cells ((upK n (nxQ n ks) s (k + 1)).map n64) 2)), (1, some (.cells ((enV n (nxQ n ks) (min (1 <<< n) (full n))).map n64) 2))]) (n := 2) (n - (k + 1)) ⟨k + 1, (by omega), rfl, rfl⟩ (by omega) id ⟨eD rfl rfl, eD rfl rfl, eD rfl rfl, e_ rfl rfl, e_ rfl rfl, eD rfl rfl, eD rfl rfl, trivial⟩ ⟨rD (mapD (fun _ => rfl) _) rfl rfl, rD (mapD (fun _ => rfl) _) rfl rfl, trivial⟩ rfl rfl rfl rfl (fun _ _ => rfl)
        · have hnx : nxQ n ks s k = false := by show nxR (bfN n ks) s k = false; unfold nxR; rw [hbk, decide_eq_true hcg1, decide_eq_false hc2]; rfl
          refine W_skip rfl ?_
          refine blkQ_n ?_
          refine thenQ_n ?_
          refine W_reg rfl ?_
          refine Rv rfl rfl rfl (U_move rfl) rfl rfl ?_
          refine Rv rfl rfl rfl (U_add rfl rfl (w64e (m := ((k + 1 : Nat) : Int)) (by omega) (by omega) (by omega))) rfl rfl ?_
          refine Rv rfl rfl rfl (U_assign rfl) rfl rfl ?_
          refine Re rfl ?_
          refine thenQ_n ?_
          first | rw [upK_T hx hs hnx hadl rfl hvs] | rw [upK_F hnx]
          exact againTo (T' := [(1, .rop [i64 ((n : Nat) : Int), .ros (ks.flatMap lkN) ks.length c] 0), (4, .ros ((bfL n ks).map n64) n none), (5, i64 ((1 <<< n : Nat) : Int)), (6, .slice 0 0 (1 <<< n) (1 <<< n)), (7, .slice 1 0 (1 <<< n) (1 <<< n)), (8, i64 ((s : Nat) : Int)), (9, i64 (((k + 1) : Nat) : Int))]) (H' := [(0, some (.cells ((upK n (nxQ n ks) s (k + 1)).map n64) 2)), (1, some (.cells ((enV n (nxQ n ks) (min (1 <<< n) (full n))).map n64) 2))]) (n := 2) (n - (k + 1)) ⟨k + 1, (by omega), rfl, rfl⟩ (by omega) id ⟨eD rfl rfl, eD rfl rfl, eD rfl rfl, e_ rfl rfl, e_ rfl rfl, eD rfl rfl, eD rfl rfl, trivial⟩ ⟨rD (mapD (fun _ => rfl) _) rfl rfl, rD (mapD (fun _ => rfl) _) rfl rfl, trivial⟩ rfl rfl rfl rfl (fun _ _ => rfl)
      · rw [hg3]
        have hg3' : ¬ ((((s >>> k) &&& 1 : Nat) : Int) = 0) := of_decide_eq_false hg3
        have hnx : nxQ n ks s k = false := by show nxR (bfN n ks) s k = false; unfold nxR; rw [decide_eq_false hg3']; rfl
        refine Ds rfl rfl rfl rfl rfl ?_
        refine Ds rfl rfl rfl rfl rfl ?_
        refine Ds rfl rfl rfl rfl rfl ?_
        refine Ds rfl rfl rfl rfl rfl ?_
        refine Ds rfl rfl rfl rfl rfl ?_
        refine Ds rfl rfl rfl rfl rfl ?_
        refine Ds rfl rfl rfl rfl rfl ?_
        refine Ds rfl rfl rfl rfl rfl ?_
        refine Ds rfl rfl rfl rfl rfl ?_
        refine Ds rfl rfl rfl rfl rfl ?_
        refine Ds rfl rfl rfl rfl rfl ?_
        refine Dv rfl rfl rfl (U_pick_f rfl rfl) rfl rfl ?_
        refine Dr.nil rfl ?_
        refine thenQ_n ?_
        refine Wcond rfl rfl (fun h => nomatch h) (fun _ => ?_)
        refine W_skip rfl ?_
        refine blkQ_n ?_
        refine thenQ_n ?_
        refine W_reg rfl ?_
        refine Rv rfl rfl rfl (U_move rfl) rfl rfl ?_
        refine Rv rfl rfl rfl (U_add rfl rfl (w64e (m := ((k + 1 : Nat) : Int)) (by omega) (by omega) (by omega))) rfl rfl ?_
        refine Rv rfl rfl rfl (U_assign rfl) rfl rfl ?_
        refine Re rfl ?_
        refine thenQ_n ?_
        first | rw [upK_T hx hs hnx hadl rfl hvs] | rw [upK_F hnx]
        exact againTo (T' := [(1, .rop [i64 ((n : Nat) : Int), .ros (ks.flatMap lkN) ks.length c] 0), (4, .ros ((bfL n ks).map n64) n none), (5, i64 ((1 <<< n : Nat) : Int)), (6, .slice 0 0 (1 <<< n) (1 <<< n)), (7, .slice 1 0 (1 <<< n) (1 <<< n)), (8, i64 ((s : Nat) : Int)), (9, i64 (((k + 1) : Nat) : Int))]) (H' := [(0, some (.cells ((upK n (nxQ n ks) s (k + 1)).map n64) 2)), (1, some (.cells ((enV n (nxQ n ks) (min (1 <<< n) (full n))).map n64) 2))]) (n := 2) (n - (k + 1)) ⟨k + 1, (by omega), rfl, rfl⟩ (by omega) id ⟨eD rfl rfl, eD rfl rfl, eD rfl rfl, e_ rfl rfl, e_ rfl rfl, eD rfl rfl, eD rfl rfl, trivial⟩ ⟨rD (mapD (fun _ => rfl) _) rfl rfl, rD (mapD (fun _ => rfl) _) rfl rfl, trivial⟩ rfl rfl rfl rfl (fun _ _ => rfl)
    · obtain rfl : n = k := by omega
      rw [upK_all hx]
      refine W_exit rfl ?_
      refine thenQ_x ?_
      refine thenQ_x ?_
      refine blkQ_x rfl ?_
      refine blkQ_n ?_
      refine thenQ_n ?_
      refine W_reg rfl ?_
      refine Rv rfl rfl rfl (U_move rfl) rfl rfl ?_
      refine Rv rfl rfl rfl (U_add rfl rfl (w64e (m := ((s + 1 : Nat) : Int)) (by omega) (by omega) (by omega))) rfl rfl ?_
      refine Rv rfl rfl rfl (U_assign rfl) rfl rfl ?_
      refine Re rfl ?_
      refine thenQ_n ?_
      exact againTo (T' := [(1, .rop [i64 ((n : Nat) : Int), .ros (ks.flatMap lkN) ks.length c] 0), (4, .ros ((bfL n ks).map n64) n none), (5, i64 ((1 <<< n : Nat) : Int)), (6, .slice 0 0 (1 <<< n) (1 <<< n)), (7, .slice 1 0 (1 <<< n) (1 <<< n)), (8, i64 (((s + 1) : Nat) : Int))]) (H' := [(0, some (.cells ((upK n (nxQ n ks) (s + 1) 0).map n64) 2)), (1, some (.cells ((enV n (nxQ n ks) (min (1 <<< n) (full n))).map n64) 2))]) (n := 2) (1 <<< n - (s + 1)) ⟨s + 1, (by omega), rfl, rfl⟩ (by omega) id ⟨eD rfl rfl, eD rfl rfl, eD rfl rfl, e_ rfl rfl, e_ rfl rfl, eD rfl rfl, trivial⟩ ⟨rD (mapD (fun _ => rfl) _) rfl rfl, rD (mapD (fun _ => rfl) _) rfl rfl, trivial⟩ rfl rfl rfl rfl (fun _ _ => rfl)
  · obtain rfl : s = 1 <<< n := by omega
    refine W_exit rfl ?_
    refine thenQ_x ?_
    refine thenQ_x ?_
    refine blkQ_x rfl ?_
    refine thenQ_n ?_
    refine W_seq rfl ?_
    refine W_seq rfl ?_
    refine W_reg rfl ?_
    refine Rv rfl rfl rfl (U_move rfl) rfl rfl ?_
    refine Rv rfl rfl rfl (U_sub rfl rfl (w64 (by omega) (by omega))) rfl rfl ?_
    refine Rv rfl rfl rfl (U_assign rfl) rfl rfl ?_
    refine Re rfl ?_
    refine thenQ_n ?_
    refine W_block rfl ?_
    refine LoopTo (T' := [(1, .rop [i64 ((n : Nat) : Int), .ros (ks.flatMap lkN) ks.length c] 0), (4, .ros ((bfL n ks).map n64) n none), (6, .slice 0 0 (1 <<< n) (1 <<< n)), (7, .slice 1 0 (1 <<< n) (1 <<< n)), (10, i64 ((((1 <<< n) : Nat) : Int) - 1))]) (H' := [(0, some (.cells ((upK n (nxQ n ks) (1 <<< n) 0).map n64) 2)), (1, some (.cells ((enV n (nxQ n ks) (min (1 <<< n) (full n))).map n64) 2))]) (n := 2) rfl (fun mz_ qz_ => ∃ (s : Nat), s ≤ 1 <<< n ∧ mz_ = 0 + s ∧ qz_ = ⟨[(1, .rop [i64 ((n : Nat) : Int), .ros (ks.flatMap lkN) ks.length c] 0), (4, .ros ((bfL n ks).map n64) n none), (6, .slice 0 0 (1 <<< n) (1 <<< n)), (7, .slice 1 0 (1 <<< n) (1 <<< n)), (10, i64 (((s : Nat) : Int) - 1))], [(0, some (.cells ((upK n (nxQ n ks) (1 <<< n) 0).map n64) 2)), (1, some (.cells ((enV n (nxQ n ks) (min s (full n))).map n64) 2))], 2, []⟩) ⟨1 <<< n, (Nat.le_refl _), rfl, rfl⟩ id ⟨eD rfl rfl, eD rfl rfl, e_ rfl rfl, e_ rfl rfl, eD rfl rfl, trivial⟩ ⟨rD (mapD (fun _ => rfl) _) rfl rfl, rD (mapD (fun _ => rfl) _) rfl rfl, trivial⟩ rfl rfl rfl rfl (fun _ _ => rfl) ?_
    rintro _ _ ⟨s, hi2_0, rfl, rfl⟩
    refine W_seq rfl ?_
    refine W_seq rfl ?_
    refine W_reg rfl ?_
    refine Rv rfl rfl rfl (U_move rfl) rfl rfl ?_
    refine Rv rfl rfl rfl (U_geq rfl rfl) rfl rfl ?_
    refine Re rfl ?_
    refine thenQ_n ?_
    refine WcondP rfl rfl (fun hc3 => ?_) (fun hc3 => ?_)
    · obtain ⟨m, rfl⟩ : ∃ m, s = m + 1 := ⟨s - 1, by omega⟩
      have hm1 : ((m + 1 : Nat) : Int) - 1 = ((m : Nat) : Int) := by omega
      rw [hm1]
      have hm : m < 2 ^ n := by rw [← one_shl (n := n)]; omega
      rw [← enK_0 (n := n) (nx := (nxQ n ks)) hm]
      refine W_skip rfl ?_
      refine thenQ_n ?_
      refine W_seq rfl ?_
      refine W_block rfl ?_
      refine W_seq rfl ?_
      refine W_reg rfl ?_
      refine Rv rfl rfl rfl (U_assign rfl) rfl rfl ?_
      refine Re rfl ?_
      refine thenQ_n ?_
      refine W_block rfl ?_
      refine LoopTo (T' := [(1, .rop [i64 ((n : Nat) : Int), .ros (ks.flatMap lkN) ks.length c] 0), (4, .ros ((bfL n ks).map n64) n none), (6, .slice 0 0 (1 <<< n) (1 <<< n)), (7, .slice 1 0 (1 <<< n) (1 <<< n)), (10, i64 ((m : Nat) : Int)), (11, i64 ((0 : Nat) : Int))]) (H' := [(0, some (.cells ((upK n (nxQ n ks) (1 <<< n) 0).map n64) 2)), (1, some (.cells ((enK n (nxQ n ks) m 0).map n64) 2))]) (n := 2) rfl (fun mz_ qz_ => ∃ (k : Nat), k ≤ n ∧ mz_ = n - k ∧ qz_ = ⟨[(1, .rop [i64 ((n : Nat) : Int), .ros (ks.flatMap lkN) ks.length c] 0), (4, .ros ((bfL n ks).map n64) n none), (6, .slice 0 0 (1 <<< n) (1 <<< n)), (7, .slice 1 0 (1 <<< n) (1 <<< n)), (10, i64 ((m : Nat) : Int)), (11, i64 ((k : Nat) : Int))], [(0, some (.cells ((upK n (nxQ n ks) (1 <<< n) 0).map n64) 2)), (1, some (.cells ((enK n (nxQ n ks) m k).map n64) 2))], 2, []⟩) ⟨0, (by omega), rfl, rfl⟩ id ⟨eD rfl rfl, eD rfl rfl, e_ rfl rfl, e_ rfl rfl, eD rfl rfl, eD rfl rfl, trivial⟩ ⟨rD (mapD (fun _ => rfl) _) rfl rfl, rD (mapD (fun _ => rfl) _) rfl rfl, trivial⟩ rfl rfl rfl rfl (fun _ _ => rfl) ?_
      rintro _ _ ⟨k, hi3_0, rfl, rfl⟩
      refine W_seq rfl ?_
      refine W_seq rfl ?_
      refine W_reg rfl ?_
      refine Rv rfl rfl rfl (U_move rfl) rfl rfl ?_
      refine Rv rfl rfl rfl (U_fieldAddrR rfl) rfl rfl ?_
      refine Rv rfl rfl rfl (U_load1 rfl rfl rfl) rfl rfl ?_
      refine Rv rfl rfl rfl (U_lss rfl rfl) rfl rfl ?_
      refine Re rfl ?_
      refine thenQ_n ?_
      refine WcondP rfl rfl (fun hc4 => ?_) (fun hc4 => ?_)
      · have hkn : k < n := by omega
        have hbi : k < (bfL n ks).length := by omega
        have hbk : bfN n ks k = (bfL n ks)[k] := getD_eq hbi
        have hbx : (bfL n ks)[k] < 1024 := bfL_lt' hv _ (List.getElem_mem _)
        have h10 : m < 1024 := by omega
        refine W_skip rfl ?_
        refine thenQ_n ?_
        refine W_seq rfl ?_
        refine W_block rfl ?_
        refine W_seq rfl ?_
        refine Wdraw rfl (by kernel_rfl) (by kernel_rfl) ?_
        refine Dv rfl rfl rfl (U_move rfl) rfl rfl ?_
        refine Dv rfl rfl rfl (U_move rfl) rfl rfl ?_
        refine Dv rfl rfl rfl (U_shr rfl rfl (by omega) (shrN (n := m) (i := k) (lt63 h10))) rfl rfl ?_
        refine Dv rfl rfl rfl (U_and rfl rfl (andN (a := m >>> k) (b := 1) (sh63 h10) (by omega))) rfl rfl ?_
        refine Dv rfl rfl rfl (U_eql rfl rfl) rfl rfl ?_
        refine Dv rfl rfl rfl (U_move rfl) rfl rfl ?_
        refine Dsplit (t := 86) rfl (fun hg7 => ?_) (fun hg7 => ?_)
        · rw [hg7]
          have hg7' : (((m >>> k) &&& 1 : Nat) : Int) = 0 := of_decide_eq_true hg7
          have hcg1 := hg7'
          refine Dv rfl rfl rfl (U_move rfl) rfl rfl ?_
          refine Dv rfl rfl rfl (U_move rfl) rfl rfl ?_
          have hx8 : k < (bfL n ks).length := by omega
          refine Dv rfl rfl rfl (U_indexR (j := k) rfl rfl rfl (by omega)) rfl rfl ?_
          refine Dv rfl rfl rfl (U_load1 rfl rfl (getM hx8)) rfl rfl ?_
          refine Dv rfl rfl rfl (U_move rfl) rfl rfl ?_
          refine Dv rfl rfl rfl (U_and rfl rfl (andN (a := (bfL n ks)[k]) (b := m) (lt63 hbx) (lt63 h10))) rfl rfl ?_
          refine Dv rfl rfl rfl (U_move rfl) rfl rfl ?_
          refine Dv rfl rfl rfl (U_move rfl) rfl rfl ?_
          refine Dv rfl rfl rfl (U_indexR (j := k) rfl rfl rfl (by omega)) rfl rfl ?_
          refine Dv rfl rfl rfl (U_load1 rfl rfl (getM hx8)) rfl rfl ?_
          refine Dv rfl rfl rfl (U_eql rfl rfl) rfl rfl ?_
          refine Dv rfl rfl rfl (U_pick_t rfl rfl) rfl rfl ?_
          refine Dr.nil rfl ?_
          refine thenQ_n ?_
          refine WcondP rfl rfl (fun hc5 => ?_) (fun hc5 => ?_)
          · have hnx : nxQ n ks m k = true := by show nxR (bfN n ks) m k = true; unfold nxR; rw [hbk, decide_eq_true hcg1, decide_eq_true hc5]; rfl
            have had : m ||| 1 <<< k < 2 ^ n := ad_lt hm hkn
            have hgt : m < m ||| 1 <<< k := ad_gt (hx _ _ hnx)
            have hne : m ≠ full n := by { rintro rfl; rw [nx_full hx hkn] at hnx; cases hnx }
            have hadl : m ||| 1 <<< k < (enK n (nxQ n ks) m k).length := by rw [enK_len, one_shl (n := n)]; exact had
            have hml : m < (enK n (nxQ n ks) m k).length := by rw [enK_len, one_shl (n := n)]; exact hm
            have hu : (enK n (nxQ n ks) m k)[m] = enR n (nxQ n ks) m k := enK_at1 hml
            have hv_ : (enK n (nxQ n ks) m k)[m ||| 1 <<< k] = en n (nxQ n ks) (ad m k) := enK_at2 hgt hadl
            have hb1 := enR_le hn hx hm (show k ≤ n by omega)
            have hb2 : en n (nxQ n ks) (ad m k) ≤ 3628800 := en_lt hx hn had
            refine Wdraw rfl (by kernel_rfl) (by kernel_rfl) ?_
            refine Dv rfl rfl rfl (U_move rfl) rfl rfl ?_
            refine Dv rfl rfl rfl (U_move rfl) rfl rfl ?_
            have hx9 : m < (enK n (nxQ n ks) m k).length := by omega
            refine Dv rfl rfl rfl (U_indexS (j := m) rfl rfl rfl (by omega)) rfl rfl ?_
            refine Dv rfl rfl rfl (U_load1 rfl rfl (getM0 hx9)) rfl rfl ?_
            refine Dv rfl rfl rfl (U_move rfl) rfl rfl ?_
            refine Dv rfl rfl rfl (U_move rfl) rfl rfl ?_
            refine Dv rfl rfl rfl (U_move rfl) rfl rfl ?_
            refine Dv rfl rfl rfl (U_shl rfl rfl (by omega) (shlN (n := 1) (i := k) (shl63 (by omega)) (by omega))) rfl rfl ?_
            refine Dv rfl rfl rfl (U_or rfl rfl (orN (a := m) (b := 1 <<< k) (lt63 h10) (lt63 (shl1024 (by omega))))) rfl rfl ?_
            have hx10 : (m ||| (1 <<< k)) < (enK n (nxQ n ks) m k).length := by omega
            refine Dv rfl rfl rfl (U_indexS (j := (m ||| (1 <<< k))) rfl rfl rfl (by omega)) rfl rfl ?_
            refine Dv rfl rfl rfl (U_load1 rfl rfl (getM0 hx10)) rfl rfl ?_
            refine Dv rfl rfl rfl (U_add rfl rfl (w64e (m := (((enK n (nxQ n ks) m k)[m] + ((enK n (nxQ n ks) m k)[(m ||| (1 <<< k))]) : Nat) : Int)) (by omega) (by omega) (by omega))) rfl rfl ?_
            refine Dv rfl rfl rfl (U_indexS (j := m) rfl rfl rfl (by omega)) rfl rfl ?_
            refine Dn_ rfl rfl rfl (U_store (n := 1) (cs' := ((enK n (nxQ n ks) m k).set m ((enK n (nxQ n ks) m k)[m] + ((enK n (nxQ n ks) m k)[(m ||| (1 <<< k))]))).map n64) rfl rfl rfl rfl rfl (stLt hx9) rfl setM) rfl rfl ?_
            refine Dr.nil rfl ?_
            refine blkQ_n ?_
            refine thenQ_n ?_
            refine W_reg rfl ?_
            refine Rv rfl rfl rfl (U_move rfl) rfl rfl ?_
            refine Rv rfl rfl rfl (U_add rfl rfl (w64e (m := ((k + 1 : Nat) : Int)) (by omega) (by omega) (by omega))) rfl rfl ?_
            refine Rv rfl rfl rfl (U_assign rfl) rfl rfl ?_
            refine Re rfl ?_
            refine thenQ_n ?_
            first | rw [enK_T hne hnx hu hv_] | rw [enK_F hnx]
            exact againTo (T' := [(1, .rop [i64 ((n : Nat) : Int), .ros (ks.flatMap lkN) ks.length c] 0), (4, .ros ((bfL n ks).map n64) n none), (6, .slice 0 0 (1 <<< n) (1 <<< n)), (7, .slice 1 0 (1 <<< n) (1 <<< n)), (10, i64 ((m : Nat) : Int)), (11, i64 (((k + 1) : Nat) : Int))]) (H' := [(0, some (.cells ((upK n (nxQ n ks) (1 <<< n) 0).map n64) 2)), (1, some (.cells ((enK n (nxQ n ks) m (k + 1)).map n64) 2))]) (n := 2) (n - (k + 1)) ⟨k + 1, (by omega), rfl, rfl⟩ (by omega) id ⟨eD rfl rfl, eD rfl rfl, e_ rfl rfl, e_ rfl rfl, eD rfl rfl, eD rfl rfl, trivial⟩ ⟨rD (mapD (fun _ => rfl) _) rfl rfl, rD (mapD (fun _ => rfl) _) rfl rfl, trivial⟩ rfl rfl rfl rfl (fun _ _ => rfl)
          · have hnx : nxQ n ks m k = false := by show nxR (bfN n ks) m k = false; unfold nxR; rw [hbk, decide_eq_true hcg1, decide_eq_false hc5]; rfl
            refine W_skip rfl ?_
            refine blkQ_n ?_
            refine thenQ_n ?_
            refine W_reg rfl ?_
            refine Rv rfl rfl rfl (U_move rfl) rfl rfl ?_
            refine Rv rfl rfl rfl (U_add rfl rfl (w64e (m := ((k + 1 : Nat) : Int)) (by omega) (by omega) (by omega))) rfl rfl ?_
            refine Rv rfl rfl rfl (U_assign rfl) rfl rfl ?_
            refine Re rfl ?_
            refine thenQ_n ?_
            first | rw [enK_T hne hnx hu hv_] | rw [enK_F hnx]
            exact againTo (T' := [(1, .rop [i64 ((n : Nat) : Int), .ros (ks.flatMap lkN) ks.length c] 0), (4, .ros ((bfL n ks).map n64) n none), (6, .slice 0 0 (1 <<< n) (1 <<< n)), (7, .slice 1 0 (1 <<< n) (1 <<< n)), (10, i64 ((m : Nat) : Int)), (11, i64 (((k + 1) : Nat) : Int))]) (H' := [(0, some (.cells ((upK n (nxQ n ks) (1 <<< n) 0).map n64) 2)), (1, some (.cells ((enK n (nxQ n ks) m (k + 1)).map n64) 2))]) (n := 2) (n - (k + 1)) ⟨k + 1, (by omega), rfl, rfl⟩ (by omega) id ⟨eD rfl rfl, eD rfl rfl, e_ rfl rfl, e_ rfl rfl, eD rfl rfl, eD rfl rfl, trivial⟩ ⟨rD (mapD (fun _ => rfl) _) rfl rfl, rD (mapD (fun _ => rfl) _) rfl rfl, trivial⟩ rfl rfl rfl rfl (fun _ _ => rfl)
        · rw [hg7]
          have hg7' : ¬ ((((m >>> k) &&& 1 : Nat) : Int) = 0) := of_decide_eq_false hg7
          have hnx : nxQ n ks m k = false := by show nxR (bfN n ks) m k = false; unfold nxR; rw [decide_eq_false hg7']; rfl
          refine Ds rfl rfl rfl rfl rfl ?_
          refine Ds rfl rfl rfl rfl rfl ?_
          refine Ds rfl rfl rfl rfl rfl ?_
          refine Ds rfl rfl rfl rfl rfl ?_
          refine Ds rfl rfl rfl rfl rfl ?_
          refine Ds rfl rfl rfl rfl rfl ?_
          refine Ds rfl rfl rfl rfl rfl ?_
          refine Ds rfl rfl rfl rfl rfl ?_
          refine Ds rfl rfl rfl rfl rfl ?_
          refine Ds rfl rfl rfl rfl rfl ?_
          refine Ds rfl rfl rfl rfl rfl ?_
          refine Dv rfl rfl rfl (U_pick_f rfl rfl) rfl rfl ?_
          refine Dr.nil rfl ?_
          refine thenQ_n ?_
          refine Wcond rfl rfl (fun h => nomatch h) (fun _ => ?_)
          refine W_skip rfl ?_
          refine blkQ_n ?_
          refine thenQ_n ?_
          refine W_reg rfl ?_
          refine Rv rfl rfl rfl (U_move rfl) rfl rfl ?_
          refine Rv rfl rfl rfl (U_add rfl rfl (w64e (m := ((k + 1 : Nat) : Int)) (by omega) (by omega) (by omega))) rfl rfl ?_
          refine Rv rfl rfl rfl (U_assign rfl) rfl rfl ?_
          refine Re rfl ?_
          refine thenQ_n ?_
          first | rw [enK_T hne hnx hu hv_] | rw [enK_F hnx]
          exact againTo (T' := [(1, .rop [i64 ((n : Nat) : Int), .ros (ks.flatMap lkN) ks.length c] 0), (4, .ros ((bfL n ks).map n64) n none), (6, .slice 0 0 (1 <<< n) (1 <<< n)), (7, .slice 1 0 (1 <<< n) (1 <<< n)), (10, i64 ((m : Nat) : Int)), (11, i64 (((k + 1) : Nat) : Int))]) (H' := [(0, some (.cells ((upK n (nxQ n ks) (1 <<< n) 0).map n64) 2)), (1, some (.cells ((enK n (nxQ n ks) m (k + 1)).map n64) 2))]) (n := 2) (n - (k + 1)) ⟨k + 1, (by omega), rfl, rfl⟩ (by omega) id ⟨eD rfl rfl, eD rfl rfl, e_ rfl rfl, e_ rfl rfl, eD rfl rfl, eD rfl rfl, trivial⟩ ⟨rD (mapD (fun _ => rfl) _) rfl rfl, rD (mapD (fun _ => rfl) _) rfl rfl, trivial⟩ rfl rfl rfl rfl (fun _ _ => rfl)
      · obtain rfl : n = k := by omega
        rw [enK_all hx hm]
        refine W_exit rfl ?_
        refine thenQ_x ?_
        refine thenQ_x ?_
        refine blkQ_x rfl ?_
        refine blkQ_n ?_
        refine thenQ_n ?_
        refine W_reg rfl ?_
        refine Rv rfl rfl rfl (U_move rfl) rfl rfl ?_
        refine Rv rfl rfl rfl (U_sub rfl rfl (w64 (by omega) (by omega))) rfl rfl ?_
        refine Rv rfl rfl rfl (U_assign rfl) rfl rfl ?_
        refine Re rfl ?_
        refine thenQ_n ?_
        exact againTo (T' := [(1, .rop [i64 ((n : Nat) : Int), .ros (ks.flatMap lkN) ks.length c] 0), (4, .ros ((bfL n ks).map n64) n none), (6, .slice 0 0 (1 <<< n) (1 <<< n)), (7, .slice 1 0 (1 <<< n) (1 <<< n)), (10, i64 (((m : Nat) : Int) - 1))]) (H' := [(0, some (.cells ((upK n (nxQ n ks) (1 <<< n) 0).map n64) 2)), (1, some (.cells ((enV n (nxQ n ks) (min m (full n))).map n64) 2))]) (n := 2) (0 + m) ⟨m, (by omega), rfl, rfl⟩ (by omega) id ⟨eD rfl rfl, eD rfl rfl, e_ rfl rfl, e_ rfl rfl, eD rfl rfl, trivial⟩ ⟨rD (mapD (fun _ => rfl) _) rfl rfl, rD (mapD (fun _ => rfl) _) rfl rfl, trivial⟩ rfl rfl rfl rfl (fun _ _ => rfl)
    · obtain rfl : s = 0 := by omega
      rw [Nat.zero_min]
      refine W_exit rfl ?_
      refine thenQ_x ?_
      refine thenQ_x ?_
      refine blkQ_x rfl ?_
      refine thenQ_n ?_
      refine W_seq rfl ?_
      refine W_reg rfl ?_
      refine Rv rfl rfl rfl (U_move rfl) rfl rfl ?_
      refine Rv rfl rfl rfl (U_move rfl) rfl rfl ?_
      refine Rv rfl rfl rfl (U_assign rfl) rfl rfl ?_
      refine Rv rfl rfl rfl (U_assign rfl) rfl rfl ?_
      refine Re rfl ?_
      refine thenQ_n ?_
      refine WfrN 0 rfl (mapD (fun _ => rfl) _) (T' := [(2, .ros ((upK n (nxQ n ks) (1 <<< n) 0).map n64) (1 <<< n) (some (1 <<< n))), (3, .slice 1 0 (1 <<< n) (1 <<< n))]) (H' := [(1, some (.cells ((enV n (nxQ n ks) 0).map n64) 2))]) ⟨⟨_, rfl, fr_sl (Nat.le_refl _)⟩, ⟨_, rfl, rfl⟩, trivial⟩ ⟨⟨rfl, rFD (mapD (fun _ => rfl) _) rfl⟩, trivial⟩ ?_
      refine WfrN 1 rfl (mapD (fun _ => rfl) _) (T' := [(2, .ros ((upK n (nxQ n ks) (1 <<< n) 0).map n64) (1 <<< n) (some (1 <<< n))), (3, .ros ((enV n (nxQ n ks) 0).map n64) (1 <<< n) (some (1 <<< n)))]) (H' := []) ⟨⟨_, rfl, rfl⟩, ⟨_, rfl, fr_sl (Nat.le_refl _)⟩, trivial⟩ trivial ?_
      refine WweakT (j := 2) rfl le_cap ?_
      refine WweakT (j := 3) rfl le_cap ?_
      refine W_ret rfl ?_
      exact retL (rlT rfl (rlT rfl rl0)) rfl rfl
end Go.Proofs.Ythmibifghihdaaa
end

section
namespace Go.Proofs.Ythmibifghihdaaa
set_option maxRecDepth 20000
open Go.AE
theorem countOf_p (n : Nat) (ks : List (Nat × Nat)) (c : Option Nat) (hv : VB n ks) : Pure Try.prog 70 [bknA n ks c] (i64 ((cntQ n ks : Nat) : Int)) := by
  have hv' := hv
  obtain ⟨hn1, hn, hkl, hk⟩ := hv'
  have h1024 := shl_le hn
  have h2n := shl_ge hn1
  refine pure_of_body Try.func70 (c := body Try.f70) rfl (by simp [Try.ntmps70]) fun w0 Φ0 => ?_
  refine W_seq rfl ?_
  refine W_reg rfl ?_
  refine Rv rfl rfl rfl (U_boxF rfl rfl rfl) rfl rfl ?_
  refine Rv rfl rfl rfl (U_assign rfl) rfl rfl ?_
  refine Re rfl ?_
  refine thenQ_n ?_
  refine W_seq rfl ?_
  refine W_reg rfl ?_
  refine Rv rfl rfl rfl (U_load2 rfl rfl rfl rfl) rfl rfl ?_
  refine Rv rfl rfl rfl (U_call rfl rfl (ways_p n ks c hv) rfl) rfl rfl ?_
  refine Rv rfl rfl rfl (U_move rfl) rfl rfl ?_
  refine Rv rfl rfl rfl (U_extract rfl rfl) rfl rfl ?_
  refine Rv rfl rfl rfl (U_extract rfl rfl) rfl rfl ?_
  refine Rv rfl rfl rfl (U_assign rfl) rfl rfl ?_
  refine Rv rfl rfl rfl (U_assign rfl) rfl rfl ?_
  refine Re rfl ?_
  refine thenQ_n ?_
  refine W_seq rfl ?_
  refine W_reg rfl ?_
  refine Rv rfl rfl rfl (U_move rfl) rfl rfl ?_
  refine Rv rfl rfl rfl (U_move rfl) rfl rfl ?_
  refine Rv rfl rfl rfl (U_lenOf rfl len_ros) rfl rfl ?_
  refine Rv rfl rfl rfl (U_sub rfl rfl (w64e (m := ((1 <<< n - 1 : Nat) : Int)) (by omega) (by omega) (by omega))) rfl rfl ?_
  have hul : (upK n (nxQ n ks) (1 <<< n) 0).length = 1 <<< n := upK_len
  have hx1 : (1 <<< n - 1) < (upK n (nxQ n ks) (1 <<< n) 0).length := by omega
  refine Rv rfl rfl rfl (U_indexR (j := (1 <<< n - 1)) rfl rfl rfl (by omega)) rfl rfl ?_
  refine Rv rfl rfl rfl (U_load1 rfl rfl (getM hx1)) rfl rfl ?_
  refine Rv rfl rfl rfl (U_assign rfl) rfl rfl ?_
  refine Re rfl ?_
  refine thenQ_n ?_
  refine W_ret rfl ?_
  exact retL (rlT rfl rl0) (by first | rfl | (simp only [packA]; rw [upK_end (show 1 <<< n - 1 < 2 ^ n by rw [← one_shl (n := n)]; omega), ← cnt_R hv, full_shl]; first | done | rfl)) rfl
end Go.Proofs.Ythmibifghihdaaa
end

section
namespace Go.Proofs.Ythmibifghihdaaa
set_option maxRecDepth 20000
open Go.AE
theorem nx_sameQ {n : Nat} {ks : List (Nat × Nat)} {m a : Nat} (hv : VB n ks) (hd : DC ks m) : nxB (briQ n ks) m a = nxQ n ks m a := nx_same hv (bfN_tb hv) hd
end Go.Proofs.Ythmibifghihdaaa
end

section
namespace Go.Proofs.Ythmibifghihdaaa
set_option maxRecDepth 20000
open Go.AE
section
variable {n : Nat} {ks : List (Nat × Nat)}
theorem en_sameQ (hv : VB n ks) {m : Nat} (hm : m < 2 ^ n) (hd : DC ks m) : en n (nxB (briQ n ks)) m = en n (nxQ n ks) m := by
  have := @cntN_le n m
  exact en_same hv (bfN_tb hv) (n - cntN n m) m (by omega) hm hd
theorem up_sameQ (hv : VB n ks) {m : Nat} (hm : m < 2 ^ n) : up n (nxB (briQ n ks)) m = up n (nxQ n ks) m := up_same hv (bfN_tb hv) _ m rfl hm
theorem nxB_DC (hv : VB n ks) {m : Nat} (hm : m < 2 ^ n) (h : up n (nxB (briQ n ks)) m ≠ 0) : DC ks m := up_dc (bfN_tb hv) (fun m a h => nxB_R hv (bfN_tb hv) h) _ m rfl hm h
theorem rnk_same (hv : VB n ks) {s : Nat} (hs : s < n) : rnkQ n (nxB (briQ n ks)) s = rnkQ n (nxQ n ks) s := by
  unfold rnkQ
  refine List.map_congr_left fun i _ => sum_congr fun m hm => ?_
  have hm := List.mem_range.1 hm
  by_cases h0 : up n (nxB (briQ n ks)) m = 0
  · rw [← up_sameQ hv hm, h0]; simp
  · have hd := nxB_DC hv hm h0
    rw [nx_sameQ hv hd, up_sameQ hv hm]
    split
    · rename_i h
      have h1 : nxQ n ks m s = true := by
        rw [Bool.and_eq_true] at h; exact h.1
      rw [en_sameQ hv (ad_lt hm hs) (dc_ad hd ((nxR_iff (bfN_tb hv)).1 h1).2)]
    · rfl
end
end Go.Proofs.Ythmibifghihdaaa
end

section
namespace Go.Proofs.Ythmibifghihdaaa
set_option maxRecDepth 20000
open Go.AE
abbrev natsL (l : List Nat) : AV := .ros (l.map n64) l.length none
abbrev ordsA (l : List (List Nat)) (c : Option Nat) : AV := .ros (l.map natsL) l.length c
end Go.Proofs.Ythmibifghihdaaa
end

section
namespace Go.Proofs.Ythmibifghihdaaa
set_option maxRecDepth 20000
open Go.AE
section
variable {n : Nat} {nx : Nat → Nat → Bool}
theorem fwd_fresh (hx : Nxt nx) : ∀ {o : List Nat} {m : Nat}, Fwd n nx m o → o.Nodup ∧ (∀ x ∈ o, m.testBit x = false ∧ x < n)
  | [], m, _ => ⟨List.nodup_nil, by simp⟩
  | a :: o, m, ⟨h1, h2, h3⟩ => by
    obtain ⟨h4, h5⟩ := fwd_fresh hx h3
    have h6 : ∀ x ∈ o, m.testBit x = false ∧ a ≠ x ∧ x < n := fun x hxm => by
      have := h5 x hxm
      rw [ad_tb, Bool.or_eq_false_iff, decide_eq_false_iff_not] at this
      exact ⟨this.1.1, this.1.2, this.2⟩
    refine ⟨List.nodup_cons.2 ⟨fun h => (h6 a h).2.1 rfl, h4⟩, fun x hxm => ?_⟩
    rcases List.mem_cons.1 hxm with rfl | h
    · exact ⟨hx _ _ h2, h1⟩
    · exact ⟨(h6 x h).1, (h6 x h).2.2⟩
end
section
variable {n : Nat} {ks : List (Nat × Nat)}
end
end Go.Proofs.Ythmibifghihdaaa
end

section
namespace Go.Proofs.Ythmibifghihdaaa
set_option maxRecDepth 20000
open Go.AE
def grt (b : Bk) : Bool := decide ((50 : Int) < b.ls.length)
theorem great_p (b : Bk) (c : Option Nat) : Pure Try.prog 18 [bookA b c] (.bool (grt b)) := by
  refine pure_of_body Try.func18 (c := body Try.f18) rfl (by simp [Try.ntmps18]) fun w0 Φ0 => ?_
  refine W_seq rfl ?_
  refine W_reg rfl ?_
  refine Rv rfl rfl rfl (U_boxF rfl rfl rfl) rfl rfl ?_
  refine Rv rfl rfl rfl (U_assign rfl) rfl rfl ?_
  refine Re rfl ?_
  refine thenQ_n ?_
  refine W_seq rfl ?_
  refine W_reg rfl ?_
  refine Rv rfl rfl rfl (U_fieldAddrR rfl) rfl rfl ?_
  refine Rv rfl rfl rfl (U_load1 rfl rfl rfl) rfl rfl ?_
  refine Rv rfl rfl rfl (U_lenOf rfl len_ros) rfl rfl ?_
  refine Rv rfl rfl rfl (U_gtr rfl rfl) rfl rfl ?_
  refine Rv rfl rfl rfl (U_assign rfl) rfl rfl ?_
  refine Re rfl ?_
  refine thenQ_n ?_
  refine W_ret rfl ?_
  exact retL (rlT rfl rl0) (by first | rfl | (simp only [packA]; rfl; first | done | rfl)) rfl
end Go.Proofs.Ythmibifghihdaaa
end

section
namespace Go.Proofs.Ythmibifghihdaaa
set_option maxRecDepth 20000
open Go.AE
theorem grt_l {b : Bk} (h : grt b = false) : b.ls.length ≤ 1000000 := by simp [grt] at h; omega
end Go.Proofs.Ythmibifghihdaaa
end

section
namespace Go.Proofs.Ythmibifghihdaaa
set_option maxRecDepth 20000
open Go.AE
def fneB (b : Bk) : Bool := !grt b && decide (chkB b = 0)
theorem fine_p (b : Bk) (c : Option Nat) : Pure Try.prog 46 [bookA b c] (.bool (fneB b)) := by
  refine pure_of_body Try.func46 (c := body Try.f46) rfl (by simp [Try.ntmps46]) fun w0 Φ0 => ?_
  refine W_seq rfl ?_
  refine W_reg rfl ?_
  refine Rv rfl rfl rfl (U_boxF rfl rfl rfl) rfl rfl ?_
  refine Rv rfl rfl rfl (U_assign rfl) rfl rfl ?_
  refine Re rfl ?_
  refine thenQ_n ?_
  refine W_seq rfl ?_
  refine Wjoin ⟨[(2, .bool ((!(grt b)) && (decide ((chkB b) = 0))))], [], 0, []⟩ ?_ ?_
  · refine W_reg rfl ?_
    refine Rv rfl rfl rfl (U_load2 rfl rfl rfl rfl) rfl rfl ?_
    refine Rv rfl rfl rfl (U_call rfl rfl (great_p b c) rfl) rfl rfl ?_
    refine Rv rfl rfl rfl (U_not rfl) rfl rfl ?_
    refine Rv rfl rfl rfl (U_move rfl) rfl rfl ?_
    refine Rsplit (t := 6) rfl (fun hg1 => ?_) (fun hg1 => ?_)
    · rw [hg1]
      have hgr : grt b = false := by simpa using hg1
      have hl := grt_l hgr
      refine Rv rfl rfl rfl (U_load2 rfl rfl rfl rfl) rfl rfl ?_
      refine Rv rfl rfl rfl (U_call rfl rfl (chkBR_p b c hl) rfl) rfl rfl ?_
      refine Rv rfl rfl rfl (U_eql rfl rfl) rfl rfl ?_
      refine Rv rfl rfl rfl (U_pick_t rfl rfl) rfl rfl ?_
      refine Rv rfl rfl rfl (U_assign rfl) rfl rfl ?_
      refine Re rfl ?_
      exact joinTo id ⟨eD rfl rfl, trivial⟩ trivial rfl rfl rfl rfl (fun _ _ => rfl)
    · rw [hg1]
      refine Rs rfl rfl rfl rfl rfl ?_
      refine Rs rfl rfl rfl rfl rfl ?_
      refine Rs rfl rfl rfl rfl rfl ?_
      refine Rv rfl rfl rfl (U_pick_f rfl rfl) rfl rfl ?_
      refine Rv rfl rfl rfl (U_assign rfl) rfl rfl ?_
      refine Re rfl ?_
      exact joinTo id ⟨eD rfl rfl, trivial⟩ trivial rfl rfl rfl rfl (fun _ _ => rfl)
  refine thenQ_n ?_
  refine W_ret rfl ?_
  exact retL (rlT rfl rl0) (by first | rfl | (simp only [packA]; rfl; first | done | rfl)) rfl
theorem fine_F (b : Bk) (c : Option Nat) (h : fneB b = false) : Pure Try.prog 46 [bookA b c] (.bool false) := by have := fine_p b c; rwa [h] at this
theorem fine_T (b : Bk) (c : Option Nat) (h : fneB b = true) : Pure Try.prog 46 [bookA b c] (.bool true) := by have := fine_p b c; rwa [h] at this
theorem fne_ok {b : Bk} (h : fneB b = true) : chkB b = 0 := by
  unfold fneB at h
  rw [Bool.and_eq_true, decide_eq_true_eq] at h
  exact h.2
end Go.Proofs.Ythmibifghihdaaa
end

section
namespace Go.Proofs.Ythmibifghihdaaa
set_option maxRecDepth 20000
open Go.AE
section
variable {n : Nat} {nx : Nat → Nat → Bool}
def elC (n : Nat) (nx : Nat → Nat → Bool) : Nat → Nat → List (List Nat)
  | 0, m => if m = full n then [[]] else []
  | f + 1, m => if m = full n then [[]] else (List.range n).flatMap fun a => if nx m a = true then (elC n nx f (ad m a)).map (a :: ·) else []
theorem elC_len : ∀ (f m : Nat), (elC n nx f m).length = enC n nx f m
  | 0, m => by unfold elC enC; split <;> rfl
  | f + 1, m => by
    unfold elC enC
    split
    · rfl
    · rw [List.length_flatMap]
      refine sum_congr fun a _ => ?_
      split
      · rw [List.length_map, elC_len f]
      · rfl
theorem elC_nodup : ∀ (f m : Nat), (elC n nx f m).Nodup
  | 0, m => by unfold elC; split <;> simp
  | f + 1, m => by
    unfold elC
    split
    · simp
    · refine flat_nodup List.nodup_range (fun a _ => ?_) fun a _ b _ hab x hxa hxb => ?_
      · split
        · exact map_nodup (fun x y h => by simpa using h) (elC_nodup f _)
        · simp
      · split at hxa
        · split at hxb
          · obtain ⟨p, _, rfl⟩ := List.mem_map.1 hxa
            obtain ⟨q, _, e⟩ := List.mem_map.1 hxb
            simp only [List.cons.injEq] at e
            exact hab e.1.symm
          · simp at hxb
        · simp at hxa
theorem fwd_full (hx : Nxt nx) {o : List Nat} (h : Fwd n nx (full n) o) : o = [] := by
  cases o with
  | nil => rfl
  | cons a o =>
    have h1 := hx _ _ h.2.1
    rw [full_tb, decide_eq_false_iff_not] at h1
    exact absurd h.1 h1
theorem elC_mem (hx : Nxt nx) : ∀ (f m : Nat) (o : List Nat), m < 2 ^ n → n ≤ f + cntN n m → (o ∈ elC n nx f m ↔ Fwd n nx m o ∧ m ||| stO o = full n)
  | 0, m, o, hm, hf => by
    have e : m = full n := Classical.byContradiction fun h => by have := cnt_lt hm h; omega
    subst e
    simp only [elC, if_true, List.mem_singleton]
    constructor
    · rintro rfl; exact ⟨trivial, by simp [stO]⟩
    · rintro ⟨h, _⟩; exact fwd_full hx h
  | f + 1, m, o, hm, hf => by
    unfold elC
    split
    · rename_i e; subst e
      rw [List.mem_singleton]
      constructor
      · rintro rfl; exact ⟨trivial, by simp [stO]⟩
      · rintro ⟨h, _⟩; exact fwd_full hx h
    · rename_i hne
      rw [List.mem_flatMap]
      constructor
      · rintro ⟨a, ha, h⟩
        have ha := List.mem_range.1 ha
        split at h
        · rename_i hu
          obtain ⟨p, hp, rfl⟩ := List.mem_map.1 h
          have hc := cnt_ad ha (hx _ _ hu)
          have h1 := (elC_mem hx f (ad m a) p (ad_lt hm ha) (by omega)).1 hp
          refine ⟨⟨ha, hu, h1.1⟩, ?_⟩
          rw [← h1.2]
          show m ||| (stO p ||| 1 <<< a) = (m ||| 1 <<< a) ||| stO p
          rw [Nat.or_assoc, Nat.or_comm (1 <<< a)]
        · simp at h
      · rintro ⟨h1, h2⟩
        cases o with
        | nil => simp [stO] at h2; exact absurd h2 hne
        | cons a p =>
          obtain ⟨ha, hu, hp⟩ := h1
          refine ⟨a, List.mem_range.2 ha, ?_⟩
          rw [if_pos hu]
          have hc := cnt_ad ha (hx _ _ hu)
          refine List.mem_map.2 ⟨p, (elC_mem hx f (ad m a) p (ad_lt hm ha) (by omega)).2 ⟨hp, ?_⟩, rfl⟩
          rw [← h2]
          show (m ||| 1 <<< a) ||| stO p = m ||| (stO p ||| 1 <<< a)
          rw [Nat.or_assoc, Nat.or_comm (1 <<< a)]
end
section
variable {n : Nat} {ks : List (Nat × Nat)}
def bhL (n : Nat) (ks : List (Nat × Nat)) (s m : Nat) : List (List Nat) := (ulC n (nxQ n ks) n m).flatMap fun p => (elC n (nxQ n ks) n (ad m s)).map fun q => p ++ s :: q
theorem len_const {α : Type} {f : α → List (List Nat)} {c : Nat} : ∀ {l : List α}, (∀ a ∈ l, (f a).length = c) → (l.flatMap f).length = l.length * c
  | [], _ => by simp
  | a :: l, h => by
    rw [List.flatMap_cons, List.length_append, h a (by simp), len_const fun b hb => h b (by simp [hb]), List.length_cons, Nat.add_mul]; omega
theorem bhL_len {s m : Nat} : (bhL n ks s m).length = up n (nxQ n ks) m * en n (nxQ n ks) (ad m s) := by
  unfold bhL
  rw [len_const (c := en n (nxQ n ks) (ad m s)) fun p _ => by rw [List.length_map, elC_len]; rfl, ulC_len]; rfl
theorem bhL_mem {s m : Nat} (hs : s < n) (hm : m < 2 ^ n) (hx : nxQ n ks m s = true) {o : List Nat} : o ∈ bhL n ks s m ↔ ∃ p q, o = p ++ s :: q ∧ stO p = m ∧ Fwd n (nxQ n ks) 0 o ∧ stO o = full n := by
  have hc := cnt_ad hs (nxQ_nxt _ _ hx)
  have hcl := @cntN_le n m
  have key : ∀ p q : List Nat, stO (p ++ s :: q) = ad (stO p) s ||| stO q := fun p q => by
    apply Nat.eq_of_testBit_eq; intro b
    rw [Bool.eq_iff_iff, stO_tb, Nat.testBit_or, ad_tb, Bool.or_eq_true, Bool.or_eq_true, stO_tb, stO_tb, decide_eq_true_eq, List.mem_append, List.mem_cons]
    constructor
    · rintro (h | h | h)
      · exact .inl (.inl h)
      · exact .inl (.inr h.symm)
      · exact .inr h
    · rintro ((h | h) | h)
      · exact .inl h
      · exact .inr (.inl h.symm)
      · exact .inr (.inr h)
  unfold bhL
  rw [List.mem_flatMap]
  constructor
  · rintro ⟨p, hp, h⟩
    obtain ⟨q, hq, rfl⟩ := List.mem_map.1 h
    have h1 := (ulC_mem nxQ_nxt n m p hm hcl).1 hp
    have h2 := (elC_mem nxQ_nxt n (ad m s) q (ad_lt hm hs) (by omega)).1 hq
    refine ⟨p, q, rfl, h1.2, fwd_app.2 ⟨h1.1, ?_⟩, ?_⟩
    · rw [Nat.zero_or, h1.2]; exact ⟨hs, hx, h2.1⟩
    · rw [key, h1.2]; exact h2.2
  · rintro ⟨p, q, rfl, h1, h2, h3⟩
    obtain ⟨h4, h5⟩ := fwd_app.1 h2
    rw [Nat.zero_or, h1] at h5
    rw [key, h1] at h3
    exact ⟨p, (ulC_mem nxQ_nxt n m p hm hcl).2 ⟨h4, h1⟩, List.mem_map.2 ⟨q, (elC_mem nxQ_nxt n (ad m s) q (ad_lt hm hs) (by omega)).2 ⟨h5.2.2, h3⟩, rfl⟩⟩
end
end Go.Proofs.Ythmibifghihdaaa
end

section
namespace Go.Proofs.Ythmibifghihdaaa
set_option maxRecDepth 20000
open Go.AE
section
variable {n : Nat} {ks : List (Nat × Nat)}
theorem plc_at {p q : List Nat} {s : Nat} (h : s ∉ p) : plc (p ++ s :: q) s = p.length := by
  have : plc ((p ++ [s]) ++ q) s = p.length := by
    unfold plc idxI
    rw [List.findIdx?_append, List.findIdx?_append]
    have e : p.findIdx? (fun y => decide (s = y)) = none := by
      rw [List.findIdx?_eq_none_iff]
      intro y hy; simp; rintro rfl; exact h hy
    rw [e]; simp
  rw [List.append_assoc] at this; exact this
theorem split_eq {p q p' q' : List Nat} {s : Nat} (h : s ∉ p) (h' : s ∉ p') (e : p ++ s :: q = p' ++ s :: q') : p = p' := by
  have h1 := plc_at (q := q) h
  rw [e, plc_at h'] at h1
  exact List.append_inj_left e (by omega)
theorem nx_out {m s : Nat} (hx : nxQ n ks m s = true) {p : List Nat} (hp : stO p = m) : s ∉ p := fun h => by
  have h1 := nxQ_nxt _ _ hx
  rw [← hp, stO_tb.2 h] at h1; cases h1
theorem bhL_nodup {s m : Nat} (hm : m < 2 ^ n) (hx : nxQ n ks m s = true) : (bhL n ks s m).Nodup := by
  unfold bhL
  have hcl := @cntN_le n m
  refine flat_nodup (ulC_nodup _ _) (fun p _ => map_nodup (fun x y h => ?_) (elC_nodup _ _)) fun p hp p' hp' hne x hxp hxp' => ?_
  · have := List.append_cancel_left h; simpa using this
  · obtain ⟨q, _, rfl⟩ := List.mem_map.1 hxp
    obtain ⟨q', _, e⟩ := List.mem_map.1 hxp'
    have h1 := (ulC_mem nxQ_nxt n m p hm hcl).1 hp
    have h2 := (ulC_mem nxQ_nxt n m p' hm hcl).1 hp'
    exact hne (split_eq (nx_out hx h1.2) (nx_out hx h2.2) e.symm)
def rnL (n : Nat) (ks : List (Nat × Nat)) (s i : Nat) : List (List Nat) := (List.range (2 ^ n)).flatMap fun m => if (nxQ n ks m s && decide (popN m = i)) = true then bhL n ks s m else []
theorem rnL_len {s i : Nat} (h : i < (rnkQ n (nxQ n ks) s).length) : (rnL n ks s i).length = (rnkQ n (nxQ n ks) s)[i] := by
  have e : (rnkQ n (nxQ n ks) s)[i] = ((List.range (2 ^ n)).map fun m => if (nxQ n ks m s && decide (popN m = i)) = true then up n (nxQ n ks) m * en n (nxQ n ks) (ad m s) else 0).sum := by simp [rnkQ]
  rw [e, rnL, List.length_flatMap]
  refine sum_congr fun m _ => ?_
  split
  · rw [bhL_len]
  · rfl
theorem rnL_nodup {s i : Nat} (hs : s < n) : (rnL n ks s i).Nodup := by
  refine flat_nodup List.nodup_range (fun m hm => ?_) fun m hm m' hm' hne x hx hx' => ?_
  · split
    · rename_i h; rw [Bool.and_eq_true] at h; exact bhL_nodup (List.mem_range.1 hm) h.1
    · simp
  · split at hx
    · split at hx'
      · rename_i h h'
        rw [Bool.and_eq_true] at h h'
        obtain ⟨p, q, e, h1, _⟩ := (bhL_mem hs (List.mem_range.1 hm) h.1).1 hx
        obtain ⟨p', q', e', h1', _⟩ := (bhL_mem hs (List.mem_range.1 hm') h'.1).1 hx'
        have := split_eq (nx_out h.1 h1) (nx_out h'.1 h1') (e.symm.trans e')
        subst this
        exact hne (h1.symm.trans h1')
      · simp at hx'
    · simp at hx
theorem rnL_mem (hn : n ≤ 10) {s i : Nat} (hs : s < n) {o : List Nat} : o ∈ rnL n ks s i ↔ o ∈ oll n ks ∧ plc o s = i := by
  have ho : o ∈ oll n ks ↔ Fwd n (nxQ n ks) 0 o ∧ stO o = full n := by
    rw [oll, ulC_mem nxQ_nxt n (full n) o full_lt (by rw [full_cnt]; exact Nat.le_refl _)]
  unfold rnL
  rw [List.mem_flatMap, ho]
  constructor
  · rintro ⟨m, hm, h⟩
    have hm := List.mem_range.1 hm
    split at h
    · rename_i hc
      rw [Bool.and_eq_true, decide_eq_true_eq] at hc
      obtain ⟨p, q, rfl, h1, h2, h3⟩ := (bhL_mem hs hm hc.1).1 h
      refine ⟨⟨h2, h3⟩, ?_⟩
      have h4 := fwd_fresh nxQ_nxt (fwd_app.1 h2).1
      rw [plc_at (nx_out hc.1 h1), ← cnt_set h4.1 fun x hx => (h4.2 x hx).2, h1, ← hc.2, pop_cnt hn hm]
    · simp at h
  · rintro ⟨⟨h2, h3⟩, h4⟩
    have hso : s ∈ o := plc_mem.1 (by omega)
    obtain ⟨p, q, hp, rfl⟩ : ∃ p q, s ∉ p ∧ o = p ++ s :: q := by
      have : ∀ o : List Nat, s ∈ o → ∃ p q, s ∉ p ∧ o = p ++ s :: q := by
        intro o
        induction o with
        | nil => intro h; simp at h
        | cons a o ih =>
          intro h
          by_cases e : s = a
          · subst e; exact ⟨[], o, by simp, rfl⟩
          · rcases List.mem_cons.1 h with h | h
            · exact absurd h e
            · obtain ⟨p, q, h1, rfl⟩ := ih h
              exact ⟨a :: p, q, by simp [e, h1], rfl⟩
      exact this o hso
    rw [plc_at hp] at h4
    have h5 := fwd_app.1 h2
    rw [Nat.zero_or] at h5
    have h6 := fwd_fresh nxQ_nxt h5.1
    have hlt : stO p < 2 ^ n := stO_lt fun x hx => (h6.2 x hx).2
    refine ⟨stO p, List.mem_range.2 hlt, ?_⟩
    have hx : nxQ n ks (stO p) s = true := h5.2.2.1
    rw [if_pos (by
      rw [hx, Bool.true_and, decide_eq_true_eq, pop_cnt hn hlt, cnt_set h6.1 fun x hx => (h6.2 x hx).2]; omega)]
    exact (bhL_mem hs hlt hx).2 ⟨p, q, rfl, rfl, h2, h3⟩
theorem rnk_cnt (hn : n ≤ 10) {s i : Nat} (hs : s < n) (h : i < (rnkQ n (nxQ n ks) s).length) : (rnkQ n (nxQ n ks) s)[i] = (oll n ks).countP fun o => decide (plc o s = (i : Int)) := by
  rw [← rnL_len h, List.countP_eq_length_filter]
  refine (nodup_permL (rnL_nodup hs) (List.Pairwise.filter _ oll_nodup) fun o => ?_).length_eq
  rw [rnL_mem hn hs, List.mem_filter, decide_eq_true_eq]
end
end Go.Proofs.Ythmibifghihdaaa
end

section
namespace Go.Proofs.Ythmibifghihdaaa
set_option maxRecDepth 20000
open Go.AE
section
variable {n : Nat} {ks : List (Nat × Nat)}
theorem plc_get {o : List Nat} (hn : o.Nodup) {i : Nat} (hi : i < o.length) : plc o o[i] = i := idx_at hn hi
theorem rnk_len {s : Nat} : (rnkQ n (nxQ n ks) s).length = n := by simp [rnkQ]
theorem rnk_getD (hn : n ≤ 10) {s i : Nat} (hs : s < n) (hi : i < n) : (rnkQ n (nxQ n ks) s).getD i 0 = (oll n ks).countP fun o => decide (plc o s = (i : Int)) := by
  rw [getD_eq (by rw [rnk_len]; exact hi), rnk_cnt hn hs]
theorem rnk_le (hv : VB n ks) {s i : Nat} (hs : s < n) (hi : i < n) : (rnkQ n (nxQ n ks) s).getD i 0 ≤ cntQ n ks := by
  rw [rnk_getD hv.2.1 hs hi, ← oll_len hv]; exact List.countP_le_length
end
end Go.Proofs.Ythmibifghihdaaa
end

section
namespace Go.Proofs.Ythmibifghihdaaa
set_option maxRecDepth 20000
open Go.AE
theorem ordered_F (b : Bk) (c : Option Nat) (hf : fneB b = false) : Pure Try.prog 47 [bookA b c] (.bool false) := by
  refine pure_of_body Try.func47 (c := body Try.f47) rfl (by simp [Try.ntmps47]) fun w0 Φ0 => ?_
  refine W_seq rfl ?_
  refine W_reg rfl ?_
  refine Rv rfl rfl rfl (U_boxF rfl rfl rfl) rfl rfl ?_
  refine Rv rfl rfl rfl (U_assign rfl) rfl rfl ?_
  refine Re rfl ?_
  refine thenQ_n ?_
  refine W_seq rfl ?_
  refine W_reg rfl ?_
  refine Rv rfl rfl rfl (U_load2 rfl rfl rfl rfl) rfl rfl ?_
  refine Rv rfl rfl rfl (U_call rfl rfl (fine_F b c hf) rfl) rfl rfl ?_
  refine Rv rfl rfl rfl (U_move rfl) rfl rfl ?_
  refine Rs rfl rfl rfl rfl rfl ?_
  refine Rs rfl rfl rfl rfl rfl ?_
  refine Rs rfl rfl rfl rfl rfl ?_
  refine Rv rfl rfl rfl (U_pick_f rfl rfl) rfl rfl ?_
  refine Rv rfl rfl rfl (U_assign rfl) rfl rfl ?_
  refine Re rfl ?_
  refine thenQ_n ?_
  refine W_ret rfl ?_
  exact retL (rlT rfl rl0) rfl rfl
theorem ordered_Y (n : Nat) (ks : List (Nat × Nat)) (c : Option Nat) (hv : VB n ks) (hf : Pure Try.prog 46 [bknA n ks c] (.bool true)) (g : Nat) (hg : Cyc n ks g) : Pure Try.prog 47 [bknA n ks c] (.bool false) := by
  refine pure_of_body Try.func47 (c := body Try.f47) rfl (by simp [Try.ntmps47]) fun w0 Φ0 => ?_
  refine W_seq rfl ?_
  refine W_reg rfl ?_
  refine Rv rfl rfl rfl (U_boxF rfl rfl rfl) rfl rfl ?_
  refine Rv rfl rfl rfl (U_assign rfl) rfl rfl ?_
  refine Re rfl ?_
  refine thenQ_n ?_
  refine W_seq rfl ?_
  refine W_reg rfl ?_
  refine Rv rfl rfl rfl (U_load2 rfl rfl rfl rfl) rfl rfl ?_
  refine Rv rfl rfl rfl (U_call rfl rfl (hf) rfl) rfl rfl ?_
  refine Rv rfl rfl rfl (U_move rfl) rfl rfl ?_
  refine Rv rfl rfl rfl (U_load2 rfl rfl rfl rfl) rfl rfl ?_
  refine Rv rfl rfl rfl (U_call rfl rfl (countOf_p n ks c hv) rfl) rfl rfl ?_
  refine Rv rfl rfl rfl (OpU.toB (U_gtr rfl rfl) (decide_eq_false (by rw [cnt_cyc hv hg]; simp))) rfl rfl ?_
  refine Rv rfl rfl rfl (U_pick_t rfl rfl) rfl rfl ?_
  refine Rv rfl rfl rfl (U_assign rfl) rfl rfl ?_
  refine Re rfl ?_
  refine thenQ_n ?_
  refine W_ret rfl ?_
  exact retL (rlT rfl rl0) rfl rfl
theorem ordered_A (n : Nat) (ks : List (Nat × Nat)) (c : Option Nat) (hv : VB n ks) (hf : Pure Try.prog 46 [bknA n ks c] (.bool true)) (ha : Acy n ks) : Pure Try.prog 47 [bknA n ks c] (.bool true) := by
  refine pure_of_body Try.func47 (c := body Try.f47) rfl (by simp [Try.ntmps47]) fun w0 Φ0 => ?_
  refine W_seq rfl ?_
  refine W_reg rfl ?_
  refine Rv rfl rfl rfl (U_boxF rfl rfl rfl) rfl rfl ?_
  refine Rv rfl rfl rfl (U_assign rfl) rfl rfl ?_
  refine Re rfl ?_
  refine thenQ_n ?_
  refine W_seq rfl ?_
  refine W_reg rfl ?_
  refine Rv rfl rfl rfl (U_load2 rfl rfl rfl rfl) rfl rfl ?_
  refine Rv rfl rfl rfl (U_call rfl rfl (hf) rfl) rfl rfl ?_
  refine Rv rfl rfl rfl (U_move rfl) rfl rfl ?_
  refine Rv rfl rfl rfl (U_load2 rfl rfl rfl rfl) rfl rfl ?_
  refine Rv rfl rfl rfl (U_call rfl rfl (countOf_p n ks c hv) rfl) rfl rfl ?_
  refine Rv rfl rfl rfl (OpU.toB (U_gtr rfl rfl) (decide_eq_true (by have := cnt_acy hv ha; omega))) rfl rfl ?_
  refine Rv rfl rfl rfl (U_pick_t rfl rfl) rfl rfl ?_
  refine Rv rfl rfl rfl (U_assign rfl) rfl rfl ?_
  refine Re rfl ?_
  refine thenQ_n ?_
  refine W_ret rfl ?_
  exact retL (rlT rfl rl0) rfl rfl
theorem ranksQ_p (n : Nat) (ks : List (Nat × Nat)) (c : Option Nat) (hv : VB n ks) (h40 : ks.length ≤ 40) (ha : Acy n ks) (s : Nat) (hs : s < n) : Pure Try.prog 39 [bknA n ks c, i64 (s : Nat)] (.tup [natsA (rnkQ n (nxQ n ks) s) none, i64 0]) := by
  have h := ranks_g n ks c hv h40 ha s hs
  rw [rnk_same hv hs] at h
  rw [natsA, rnk_len]; exact h
theorem cntA_p (n : Nat) (ks : List (Nat × Nat)) (c : Option Nat) (hv : VB n ks) (h40 : ks.length ≤ 40) (ha : Acy n ks) : Pure Try.prog 28 [bknA n ks c] (.tup [i64 ((cntQ n ks : Nat) : Int), i64 0]) := countP_a n ks c hv h40 ha
def tabK (n : Nat) (ks : List (Nat × Nat)) (k : Nat) : List (List Nat) := (List.range k).map (rnkQ n (nxQ n ks))
theorem tabK_S {n k : Nat} {ks : List (Nat × Nat)} : tabK n ks (k + 1) = tabK n ks k ++ [rnkQ n (nxQ n ks) k] := by simp [tabK, List.range_succ]
theorem tabK_len {n k : Nat} {ks : List (Nat × Nat)} : (tabK n ks k).length = k := by simp [tabK]
theorem table_g (n : Nat) (ks : List (Nat × Nat)) (c : Option Nat) (hv : VB n ks) (h40 : ks.length ≤ 40) (ha : Acy n ks) : Pure Try.prog 49 [bknA n ks c] (.tup [ordsA (tabK n ks n) none, i64 ((cntQ n ks : Nat) : Int), .bool true]) := by
  have hv' := hv
  obtain ⟨hn1, hn, hkl, hk⟩ := hv'
  have hk2 := vb_lt hv
  have hcp := cnt_acy hv ha
  have hcl := cntQ_le hv
  refine pure_of_body Try.func49 (c := body Try.f49) rfl (by simp [Try.ntmps49]) fun w0 Φ0 => ?_
  refine W_seq rfl ?_
  refine W_reg rfl ?_
  refine Rv rfl rfl rfl (U_boxF rfl rfl rfl) rfl rfl ?_
  refine Rv rfl rfl rfl (U_assign rfl) rfl rfl ?_
  refine Rv rfl rfl rfl (U_assign rfl) rfl rfl ?_
  refine Rv rfl rfl rfl (U_assign rfl) rfl rfl ?_
  refine Re rfl ?_
  refine thenQ_n ?_
  refine W_seq rfl ?_
  refine W_reg rfl ?_
  refine Rv rfl rfl rfl (U_load2 rfl rfl rfl rfl) rfl rfl ?_
  refine Rv rfl rfl rfl (U_call rfl rfl (cntA_p n ks c hv h40 ha) rfl) rfl rfl ?_
  refine Rv rfl rfl rfl (U_move rfl) rfl rfl ?_
  refine Rv rfl rfl rfl (U_extract rfl rfl) rfl rfl ?_
  refine Rv rfl rfl rfl (U_extract rfl rfl) rfl rfl ?_
  refine Rv rfl rfl rfl (U_assign rfl) rfl rfl ?_
  refine Rv rfl rfl rfl (U_assign rfl) rfl rfl ?_
  refine Re rfl ?_
  refine thenQ_n ?_
  refine W_seq rfl ?_
  refine W_seq rfl ?_
  refine W_reg rfl ?_
  refine Rv rfl rfl rfl (U_move rfl) rfl rfl ?_
  refine Rv rfl rfl rfl (OpU.toB (U_neq rfl rfl) (decide_eq_false (by omega))) rfl rfl ?_
  refine Rv rfl rfl rfl (U_move rfl) rfl rfl ?_
  refine Rv rfl rfl rfl (U_move rfl) rfl rfl ?_
  refine Rv rfl rfl rfl (OpU.toB (U_lss rfl rfl) (decide_eq_false (by omega))) rfl rfl ?_
  refine Rv rfl rfl rfl (U_pick_f rfl rfl) rfl rfl ?_
  refine Rv rfl rfl rfl (U_move rfl) rfl rfl ?_
  refine Rv rfl rfl rfl (U_move rfl) rfl rfl ?_
  refine Rv rfl rfl rfl (OpU.toB (U_gtr rfl rfl) (decide_eq_false (by omega))) rfl rfl ?_
  refine Rv rfl rfl rfl (U_pick_f rfl rfl) rfl rfl ?_
  refine Re rfl ?_
  refine thenQ_n ?_
  refine Wcond rfl rfl (fun h => nomatch h) (fun _ => ?_)
  refine W_skip rfl ?_
  refine thenQ_n ?_
  refine W_seq rfl ?_
  refine W_reg rfl ?_
  refine Rv rfl rfl rfl (U_assign rfl) rfl rfl ?_
  refine Re rfl ?_
  refine thenQ_n ?_
  refine W_seq rfl ?_
  refine W_seq rfl ?_
  refine W_reg rfl ?_
  refine Rv rfl rfl rfl (U_assign rfl) rfl rfl ?_
  refine Re rfl ?_
  refine thenQ_n ?_
  refine W_block rfl ?_
  refine LoopTo (T' := [(1, .rop [i64 ((n : Nat) : Int), .ros (ks.flatMap lkN) ks.length c] 0), (5, i64 ((cntQ n ks : Nat) : Int)), (7, .out 0 [].length 1), (8, i64 ((0 : Nat) : Int))]) (H' := [(0, outB ([].map natsL) 48 [].length)]) (n := 1) rfl (fun mz_ qz_ => ∃ (s : Nat) (P : List (List Nat)), s ≤ n ∧ P = tabK n ks s ∧ mz_ = n - s ∧ qz_ = ⟨[(1, .rop [i64 ((n : Nat) : Int), .ros (ks.flatMap lkN) ks.length c] 0), (5, i64 ((cntQ n ks : Nat) : Int)), (7, .out 0 P.length 1), (8, i64 ((s : Nat) : Int))], [(0, outB (P.map natsL) 48 P.length)], 1, []⟩) ⟨0, [], (by omega), rfl, rfl, rfl⟩ id ⟨eD rfl rfl, eD rfl rfl, eW rfl le_nils_out rfl, eD rfl rfl, trivial⟩ ⟨rO0 rfl, trivial⟩ rfl rfl rfl rfl (fun _ _ => rfl) ?_
  rintro _ _ ⟨s, P, hi0_0, hi0_1, rfl, rfl⟩
  have hPl : P.length ≤ s := by rw [hi0_1, tabK_len]; exact Nat.le_refl _
  refine W_seq rfl ?_
  refine W_seq rfl ?_
  refine W_reg rfl ?_
  refine Rv rfl rfl rfl (U_move rfl) rfl rfl ?_
  refine Rv rfl rfl rfl (U_fieldAddrR rfl) rfl rfl ?_
  refine Rv rfl rfl rfl (U_load1 rfl rfl rfl) rfl rfl ?_
  refine Rv rfl rfl rfl (U_lss rfl rfl) rfl rfl ?_
  refine Re rfl ?_
  refine thenQ_n ?_
  refine WcondP rfl rfl (fun hc1 => ?_) (fun hc1 => ?_)
  · have hsn : s < n := by omega
    have hql : (rnkQ n (nxQ n ks) s).length = n := rnk_len
    refine W_skip rfl ?_
    refine thenQ_n ?_
    refine W_seq rfl ?_
    refine W_block rfl ?_
    refine W_seq rfl ?_
    refine W_reg rfl ?_
    refine Rv rfl rfl rfl (U_load2 rfl rfl rfl rfl) rfl rfl ?_
    refine Rv rfl rfl rfl (U_move rfl) rfl rfl ?_
    refine Rv rfl rfl rfl (U_call rfl rfl (ranksQ_p n ks c hv h40 ha s (by omega)) rfl) rfl rfl ?_
    refine Rv rfl rfl rfl (U_move rfl) rfl rfl ?_
    refine Rv rfl rfl rfl (U_extract rfl rfl) rfl rfl ?_
    refine Rv rfl rfl rfl (U_extract rfl rfl) rfl rfl ?_
    refine Rv rfl rfl rfl (U_assign rfl) rfl rfl ?_
    refine Rv rfl rfl rfl (U_assign rfl) rfl rfl ?_
    refine Re rfl ?_
    refine thenQ_n ?_
    refine W_seq rfl ?_
    refine W_seq rfl ?_
    refine W_reg rfl ?_
    refine Rv rfl rfl rfl (U_move rfl) rfl rfl ?_
    refine Rv rfl rfl rfl (OpU.toB (U_neq rfl rfl) (decide_eq_false (by omega))) rfl rfl ?_
    refine Rv rfl rfl rfl (U_move rfl) rfl rfl ?_
    refine Rv rfl rfl rfl (U_move rfl) rfl rfl ?_
    refine Rv rfl rfl rfl (U_lenOf rfl len_ros) rfl rfl ?_
    refine Rv rfl rfl rfl (U_fieldAddrR rfl) rfl rfl ?_
    refine Rv rfl rfl rfl (U_load1 rfl rfl rfl) rfl rfl ?_
    refine Rv rfl rfl rfl (OpU.toB (U_neq rfl rfl) (decide_eq_false (by omega))) rfl rfl ?_
    refine Rv rfl rfl rfl (U_pick_f rfl rfl) rfl rfl ?_
    refine Re rfl ?_
    refine thenQ_n ?_
    refine Wcond rfl rfl (fun h => nomatch h) (fun _ => ?_)
    refine W_skip rfl ?_
    refine thenQ_n ?_
    refine W_seq rfl ?_
    refine W_seq rfl ?_
    refine W_reg rfl ?_
    refine Rv rfl rfl rfl (U_assign rfl) rfl rfl ?_
    refine Re rfl ?_
    refine thenQ_n ?_
    refine W_block rfl ?_
    refine LoopTo (T' := [(1, .rop [i64 ((n : Nat) : Int), .ros (ks.flatMap lkN) ks.length c] 0), (5, i64 ((cntQ n ks : Nat) : Int)), (7, .out 0 P.length 1), (8, i64 ((s : Nat) : Int)), (9, .ros ((rnkQ n (nxQ n ks) s).map n64) ((rnkQ n (nxQ n ks) s).length) none), (11, i64 ((0 : Nat) : Int))]) (H' := [(0, outB (P.map natsL) 48 P.length)]) (n := 1) rfl (fun mz_ qz_ => ∃ (i : Nat), i ≤ n ∧ mz_ = n - i ∧ qz_ = ⟨[(1, .rop [i64 ((n : Nat) : Int), .ros (ks.flatMap lkN) ks.length c] 0), (5, i64 ((cntQ n ks : Nat) : Int)), (7, .out 0 P.length 1), (8, i64 ((s : Nat) : Int)), (9, .ros ((rnkQ n (nxQ n ks) s).map n64) ((rnkQ n (nxQ n ks) s).length) none), (11, i64 ((i : Nat) : Int))], [(0, outB (P.map natsL) 48 P.length)], 1, []⟩) ⟨0, (by omega), rfl, rfl⟩ id ⟨eD rfl rfl, eD rfl rfl, e_ rfl rfl, eD rfl rfl, eD rfl rfl, eD rfl rfl, trivial⟩ ⟨rO (mapD (fun _ => rfl) _) rfl rfl, trivial⟩ rfl rfl rfl rfl (fun _ _ => rfl) ?_
    rintro _ _ ⟨i, hi1_0, rfl, rfl⟩
    refine W_seq rfl ?_
    refine W_seq rfl ?_
    refine W_reg rfl ?_
    refine Rv rfl rfl rfl (U_move rfl) rfl rfl ?_
    refine Rv rfl rfl rfl (U_move rfl) rfl rfl ?_
    refine Rv rfl rfl rfl (U_lenOf rfl len_ros) rfl rfl ?_
    refine Rv rfl rfl rfl (U_lss rfl rfl) rfl rfl ?_
    refine Re rfl ?_
    refine thenQ_n ?_
    refine WcondP rfl rfl (fun hc3 => ?_) (fun hc3 => ?_)
    · have hin : i < n := by omega
      have hiq : i < (rnkQ n (nxQ n ks) s).length := by omega
      have hle := rnk_le hv hsn hin
      rw [getD_eq hiq] at hle
      refine W_skip rfl ?_
      refine thenQ_n ?_
      refine W_seq rfl ?_
      refine W_block rfl ?_
      refine W_seq rfl ?_
      refine W_reg rfl ?_
      refine Rv rfl rfl rfl (U_move rfl) rfl rfl ?_
      refine Rv rfl rfl rfl (U_move rfl) rfl rfl ?_
      have hx1 : i < (rnkQ n (nxQ n ks) s).length := by omega
      refine Rv rfl rfl rfl (U_indexR (j := i) rfl rfl rfl hx1) rfl rfl ?_
      refine Rv rfl rfl rfl (U_load1 rfl rfl (getM hx1)) rfl rfl ?_
      refine Rv rfl rfl rfl (OpU.toB (U_lss rfl rfl) (decide_eq_false (by omega))) rfl rfl ?_
      refine Rv rfl rfl rfl (U_move rfl) rfl rfl ?_
      refine Rv rfl rfl rfl (U_move rfl) rfl rfl ?_
      refine Rv rfl rfl rfl (U_move rfl) rfl rfl ?_
      refine Rv rfl rfl rfl (U_indexR (j := i) rfl rfl rfl hx1) rfl rfl ?_
      refine Rv rfl rfl rfl (U_load1 rfl rfl (getM hx1)) rfl rfl ?_
      refine Rv rfl rfl rfl (U_move rfl) rfl rfl ?_
      refine Rv rfl rfl rfl (OpU.toB (U_gtr rfl rfl) (decide_eq_false (by omega))) rfl rfl ?_
      refine Rv rfl rfl rfl (U_pick_f rfl rfl) rfl rfl ?_
      refine Re rfl ?_
      refine thenQ_n ?_
      refine Wcond rfl rfl (fun h => nomatch h) (fun _ => ?_)
      refine W_skip rfl ?_
      refine blkQ_n ?_
      refine thenQ_n ?_
      refine W_reg rfl ?_
      refine Rv rfl rfl rfl (U_move rfl) rfl rfl ?_
      refine Rv rfl rfl rfl (U_add rfl rfl (w64e (m := ((i + 1 : Nat) : Int)) (by omega) (by omega) (by omega))) rfl rfl ?_
      refine Rv rfl rfl rfl (U_assign rfl) rfl rfl ?_
      refine Re rfl ?_
      refine thenQ_n ?_
      exact againTo (T' := [(1, .rop [i64 ((n : Nat) : Int), .ros (ks.flatMap lkN) ks.length c] 0), (5, i64 ((cntQ n ks : Nat) : Int)), (7, .out 0 P.length 1), (8, i64 ((s : Nat) : Int)), (9, .ros ((rnkQ n (nxQ n ks) s).map n64) ((rnkQ n (nxQ n ks) s).length) none), (11, i64 (((i + 1) : Nat) : Int))]) (H' := [(0, outB (P.map natsL) 48 P.length)]) (n := 1) (n - (i + 1)) ⟨i + 1, (by omega), rfl, rfl⟩ (by omega) id ⟨eD rfl rfl, eD rfl rfl, e_ rfl rfl, eD rfl rfl, eD rfl rfl, eD rfl rfl, trivial⟩ ⟨rO (mapD (fun _ => rfl) _) rfl rfl, trivial⟩ rfl rfl rfl rfl (fun _ _ => rfl)
    · refine W_exit rfl ?_
      refine thenQ_x ?_
      refine thenQ_x ?_
      refine blkQ_x rfl ?_
      refine thenQ_n ?_
      refine W_reg rfl ?_
      refine Rv rfl rfl rfl (U_move rfl) rfl rfl ?_
      refine Rv rfl rfl rfl (U_move rfl) rfl rfl ?_
      refine Rv rfl rfl rfl (U_buildSliceF (by rfl) (by decide) rfl rfl rfl) rfl rfl ?_
      refine Ra rfl rfl rfl (U_appO (b := 0) (m := 0) (cs' := (P ++ [rnkQ n (nxQ n ks) s]).map natsL) (n' := (P ++ [rnkQ n (nxQ n ks) s]).length) rfl rfl (by simp) rfl (map_len1 _) rfl rfl (by omega) (appM _ _) (len1 _ _)) rfl rfl rfl ?_
      refine Rv rfl rfl rfl (U_assign rfl) rfl rfl ?_
      refine Re rfl ?_
      refine blkQ_n ?_
      refine thenQ_n ?_
      refine W_reg rfl ?_
      refine Rv rfl rfl rfl (U_move rfl) rfl rfl ?_
      refine Rv rfl rfl rfl (U_add rfl rfl (w64e (m := ((s + 1 : Nat) : Int)) (by omega) (by omega) (by omega))) rfl rfl ?_
      refine Rv rfl rfl rfl (U_assign rfl) rfl rfl ?_
      refine Re rfl ?_
      refine thenQ_n ?_
      exact againTo (T' := [(1, .rop [i64 ((n : Nat) : Int), .ros (ks.flatMap lkN) ks.length c] 0), (5, i64 ((cntQ n ks : Nat) : Int)), (7, .out 0 (P ++ [rnkQ n (nxQ n ks) s]).length 1), (8, i64 (((s + 1) : Nat) : Int))]) (H' := [(0, outB ((P ++ [rnkQ n (nxQ n ks) s]).map natsL) 48 (P ++ [rnkQ n (nxQ n ks) s]).length)]) (n := 1) (n - (s + 1)) ⟨s + 1, P ++ [rnkQ n (nxQ n ks) s], (by omega), (by rw [tabK_S, ← hi0_1]), rfl, rfl⟩ (by omega) (mapN [1]) ⟨eD rfl rfl, eD rfl rfl, e_ rfl rfl, eD rfl rfl, trivial⟩ ⟨rO (mapD (fun _ => rfl) _) rfl rfl, trivial⟩ rfl rfl rfl rfl (fun _ h => absurd h (Nat.not_lt_zero _))
  · have hP : P = tabK n ks n := by rw [hi0_1, show s = n by omega]
    refine W_exit rfl ?_
    refine thenQ_x ?_
    refine thenQ_x ?_
    refine blkQ_x rfl ?_
    refine thenQ_n ?_
    refine W_seq rfl ?_
    refine W_reg rfl ?_
    refine Rv rfl rfl rfl (U_move rfl) rfl rfl ?_
    refine Rv rfl rfl rfl (U_move rfl) rfl rfl ?_
    refine Rv rfl rfl rfl (U_assign rfl) rfl rfl ?_
    refine Rv rfl rfl rfl (U_assign rfl) rfl rfl ?_
    refine Rv rfl rfl rfl (U_assign rfl) rfl rfl ?_
    refine Re rfl ?_
    refine thenQ_n ?_
    refine WfrO 0 (P.map natsL) rfl (mapD (fun _ => rfl) _) (T' := [(2, .ros (P.map natsL) P.length none), (3, i64 ((cntQ n ks : Nat) : Int)), (4, .bool true)]) (H' := []) ⟨fO rfl, fD rfl rfl, fD rfl rfl, trivial⟩ trivial ?_
    refine W_ret rfl ?_
    exact retL (rlT rfl (rlT rfl (rlT rfl rl0))) (by first | rfl | (simp only [packA]; rw [hP]; first | done | rfl)) rfl
end Go.Proofs.Ythmibifghihdaaa
end

section
namespace Go.Proofs.Ythmibifghihdaaa
set_option maxRecDepth 20000
open Go.AE
theorem isO_mem {n : Nat} {ks : List (Nat × Nat)} {q : List Nat} (h : IsO n ks q) {s : Nat} (hs : s < n) : s ∈ q := by
  refine Classical.byContradiction fun hc => ?_
  have := nodup_len (l := s :: q) (m := List.range n) (List.nodup_cons.2 ⟨hc, h.2.1⟩) (fun x hx => by rcases List.mem_cons.1 hx with rfl | hx; exact List.mem_range.2 hs; exact List.mem_range.2 (h.2.2.1 x hx))
  simp [h.1] at this; omega
end Go.Proofs.Ythmibifghihdaaa
end

section
namespace Go.Proofs.Ythmibifghihdaaa
set_option maxRecDepth 20000
open Go.AE
section
variable {n : Nat} {ks : List (Nat × Nat)}
theorem plc_some {o : List Nat} {x : Nat} (hx : x ∈ o) : ∃ k, ∃ h : k < o.length, o[k] = x ∧ ∀ (hn : o.Nodup), plc o x = k := by
  obtain ⟨k, hk, e⟩ := List.getElem_of_mem hx
  exact ⟨k, hk, e, fun hn => by rw [← e]; exact plc_get hn hk⟩
theorem isP_mem {o : List Nat} (h : IsP n o) {s : Nat} (hs : s < n) : s ∈ o :=
  isO_mem (ks := []) ⟨h.1, h.2.1, h.2.2, fun p hp => absurd hp (by simp)⟩ hs
theorem isO_P {o : List Nat} (h : IsO n ks o) : IsP n o := ⟨h.1, h.2.1, h.2.2.1⟩
end
end Go.Proofs.Ythmibifghihdaaa
end

section
namespace Go.Proofs.Ythmibifghihdaaa
set_option maxRecDepth 20000
def upd (g : Nat → Nat) (i a : Nat) : Nat → Nat := fun j => if j = i then a else g j
theorem upd_ne {g : Nat → Nat} {i j a : Nat} (h : j ≠ i) : upd g i a j = g j := if_neg h
end Go.Proofs.Ythmibifghihdaaa
end

section
namespace Go.Proofs.Ythmibifghihdaaa
set_option maxRecDepth 20000
open Go.AE
def one (b : Bool) : Nat := if b = true then 1 else 0
section
variable {n : Nat} {ks : List (Nat × Nat)}
theorem perm_isP {o : List Nat} (h : o.Perm (List.range n)) : IsP n o := ⟨by rw [h.length_eq, List.length_range], h.nodup_iff.2 List.nodup_range, fun x hx => List.mem_range.1 (h.mem_iff.1 hx)⟩
end
end Go.Proofs.Ythmibifghihdaaa
end

section
namespace Go.Proofs.Ythmibifghihdaaa
set_option maxRecDepth 20000
theorem sq_nn (a : Rat) : 0 ≤ a * a := by
  rcases Rat.le_total (a := 0) (b := a) with h | h
  · exact Rat.mul_nonneg h h
  · have h2 : 0 ≤ -a := by grind
    have := Rat.mul_nonneg h2 h2
    grind
theorem sq_0 {a : Rat} (h : a * a ≤ 0) : a = 0 := by
  refine Classical.byContradiction fun hc => ?_
  rcases Rat.le_total (a := 0) (b := a) with h1 | h1
  · have h2 : 0 < a := by grind
    have := Rat.mul_pos h2 h2
    grind
  · have h2 : 0 < -a := by grind
    have := Rat.mul_pos h2 h2
    grind
theorem div_nn {a b : Rat} (ha : 0 ≤ a) (hb : 0 < b) : 0 ≤ a / b := by
  have e : a / b * b = a := by have : b ≠ 0 := by grind
                               grind
  refine Classical.byContradiction fun hc => ?_
  have := Rat.mul_pos (show 0 < - (a / b) by grind) hb
  grind
theorem div_ps {a b : Rat} (ha : 0 < a) (hb : 0 < b) : 0 < a / b := by
  have h1 := div_nn (a := a) (by grind) hb
  have e : a / b * b = a := by have : b ≠ 0 := by grind
                               grind
  have h2 : a / b ≠ 0 := fun h => by rw [h] at e; grind
  grind
def rs : Nat → (Nat → Rat) → Rat
  | 0, _ => 0
  | n + 1, f => rs n f + f n
theorem rs_congr {f g : Nat → Rat} : ∀ {n : Nat}, (∀ x, x < n → f x = g x) → rs n f = rs n g
  | 0, _ => rfl
  | n + 1, h => by
    show rs n f + f n = rs n g + g n
    rw [rs_congr fun x hx => h x (by omega), h n (by omega)]
theorem rs_add {f g : Nat → Rat} : ∀ {n : Nat}, rs n (fun x => f x + g x) = rs n f + rs n g
  | 0 => by simp [rs]; grind
  | n + 1 => by
    show rs n (fun x => f x + g x) + (f n + g n) = rs n f + f n + (rs n g + g n)
    rw [rs_add]; grind
theorem rs_mul {c : Rat} {f : Nat → Rat} : ∀ {n : Nat}, rs n (fun x => c * f x) = c * rs n f
  | 0 => by simp [rs]
  | n + 1 => by
    show rs n (fun x => c * f x) + c * f n = c * (rs n f + f n)
    rw [rs_mul]; grind
theorem rs_mulR {c : Rat} {f : Nat → Rat} {n : Nat} : rs n (fun x => f x * c) = rs n f * c := by
  rw [rs_congr (g := fun x => c * f x) fun x _ => by grind, rs_mul]; grind
theorem rs_neg {f : Nat → Rat} {n : Nat} : rs n (fun x => - f x) = - rs n f := by
  rw [rs_congr (g := fun x => (-1) * f x) fun x _ => by grind, rs_mul]; grind
theorem rs_sub {f g : Nat → Rat} {n : Nat} : rs n (fun x => f x - g x) = rs n f - rs n g := by
  rw [rs_congr (g := fun x => f x + - g x) fun x _ => by grind, rs_add, rs_neg]; grind
theorem rs_zero {f : Nat → Rat} : ∀ {n : Nat}, (∀ x, x < n → f x = 0) → rs n f = 0
  | 0, _ => rfl
  | n + 1, h => by
    show rs n f + f n = 0
    rw [rs_zero fun x hx => h x (by omega), h n (by omega)]; grind
theorem rs_nn {f : Nat → Rat} : ∀ {n : Nat}, (∀ x, x < n → 0 ≤ f x) → 0 ≤ rs n f
  | 0, _ => by simp [rs]
  | n + 1, h => by
    show 0 ≤ rs n f + f n
    have := rs_nn (n := n) fun x hx => h x (by omega)
    have := h n (by omega)
    grind
theorem rs_le {f g : Nat → Rat} {n : Nat} (h : ∀ x, x < n → f x ≤ g x) : rs n f ≤ rs n g := by
  have := rs_nn (f := fun x => g x - f x) (n := n) fun x hx => by have := h x hx; grind
  rw [rs_sub] at this; grind
theorem rs_each {f : Nat → Rat} : ∀ {n : Nat}, (∀ x, x < n → 0 ≤ f x) → rs n f ≤ 0 → ∀ x, x < n → f x = 0
  | 0, _, _, x, hx => by omega
  | n + 1, h, h0, x, hx => by
    have h1 : rs n f + f n ≤ 0 := h0
    have h2 := rs_nn (n := n) fun x hx => h x (by omega)
    have h3 := h n (by omega)
    by_cases e : x = n
    · subst e; grind
    · exact rs_each (n := n) (fun x hx => h x (by omega)) (by grind) x (by omega)
theorem rs_swap {f : Nat → Nat → Rat} {m : Nat} : ∀ {n : Nat}, rs n (fun x => rs m (f x)) = rs m (fun y => rs n fun x => f x y)
  | 0 => (rs_zero fun _ _ => rfl).symm
  | n + 1 => by
    show rs n (fun x => rs m (f x)) + rs m (f n) = rs m (fun y => rs n (fun x => f x y) + f n y)
    rw [rs_add, rs_swap]
theorem rs_one {n a : Nat} {f : Nat → Rat} (ha : a < n) (h : ∀ x, x < n → x ≠ a → f x = 0) : rs n f = f a := by
  induction n with
  | zero => omega
  | succ n ih =>
    show rs n f + f n = f a
    by_cases e : a = n
    · subst e; rw [rs_zero fun x hx => h x (by omega) (by omega)]; grind
    · rw [ih (by omega) fun x hx hn => h x (by omega) hn, h n (by omega) (by omega)]; grind
theorem rs_le_one {n a : Nat} {f : Nat → Rat} (ha : a < n) (h : ∀ x, x < n → 0 ≤ f x) : f a ≤ rs n f := by
  induction n with
  | zero => omega
  | succ n ih =>
    show f a ≤ rs n f + f n
    have h1 := rs_nn (n := n) fun x hx => h x (by omega)
    have h2 := h n (by omega)
    by_cases e : a = n
    · subst e; grind
    · have := ih (by omega) fun x hx => h x (by omega); grind
theorem fred {m : Nat} : ∀ (N : Nat) (R : Nat → Nat → Rat) (b : Nat → Rat), (∃ y : Nat → Rat, ∀ i, i < m → rs N (fun j => R i j * y j) = b i) ∨ (∃ c : Nat → Rat, (∀ j, j < N → rs m (fun i => c i * R i j) = 0) ∧ rs m (fun i => c i * b i) ≠ 0)
  | 0, R, b => by
    by_cases h : ∀ i, i < m → b i = 0
    · exact .inl ⟨fun _ => 0, fun i hi => by rw [h i hi]; rfl⟩
    · obtain ⟨i, hi⟩ := Classical.not_forall.1 h
      obtain ⟨hi, hb⟩ := Classical.not_imp.1 hi
      refine .inr ⟨fun x => if x = i then 1 else 0, fun j hj => by omega, ?_⟩
      rw [rs_one hi fun x _ hx => by show (if x = i then (1 : Rat) else 0) * b x = 0; rw [if_neg hx]; grind]
      show (if i = i then (1 : Rat) else 0) * b i ≠ 0
      rw [if_pos rfl]; grind
  | N + 1, R, b => by
    by_cases h : ∀ i, i < m → R i N = 0
    · rcases fred (m := m) N R b with ⟨y, hy⟩ | ⟨c, hc, hb⟩
      · refine .inl ⟨y, fun i hi => ?_⟩
        show rs N (fun j => R i j * y j) + R i N * y N = b i
        rw [hy i hi, h i hi]; grind
      · refine .inr ⟨c, fun j hj => ?_, hb⟩
        by_cases e : j = N
        · subst e; exact rs_zero fun i hi => by rw [h i hi]; grind
        · exact hc j (by omega)
    · obtain ⟨p, hp⟩ := Classical.not_forall.1 h
      obtain ⟨hp, ha⟩ := Classical.not_imp.1 hp
      let q : Nat → Rat := fun i => R i N / R p N
      have hq : ∀ i, q i * R p N = R i N := fun i => by show R i N / R p N * R p N = R i N; grind
      rcases fred (m := m) N (fun i j => R i j - q i * R p j) (fun i => b i - q i * b p) with ⟨y, hy⟩ | ⟨c, hc, hb⟩
      · let y' : Nat → Rat := fun j => if j = N then (b p - rs N (fun j => R p j * y j)) / R p N else y j
        have e1 : ∀ i, rs N (fun j => R i j * y' j) = rs N (fun j => R i j * y j) := fun i => rs_congr fun j hj => by
          show R i j * (if j = N then _ else y j) = _
          rw [if_neg (by omega)]
        refine .inl ⟨y', fun i hi => ?_⟩
        show rs N (fun j => R i j * y' j) + R i N * y' N = b i
        have e2 := hy i hi
        rw [rs_congr (g := fun j => R i j * y j - q i * (R p j * y j)) fun j _ => by grind, rs_sub, rs_mul] at e2
        have e3 : y' N = (b p - rs N (fun j => R p j * y j)) / R p N := if_pos rfl
        rw [e1, e3, ← hq i]
        have e4 : q i * R p N * ((b p - rs N (fun j => R p j * y j)) / R p N) = q i * (b p - rs N (fun j => R p j * y j)) := by grind
        rw [e4]; grind
      · let s : Rat := rs m (fun i => c i * q i)
        let c' : Nat → Rat := fun i => c i - (if i = p then s else 0)
        have key : ∀ f : Nat → Rat, rs m (fun i => c' i * f i) = rs m (fun i => c i * (f i - q i * f p)) := fun f => by
          rw [rs_congr (g := fun i => c i * f i - (if i = p then s else 0) * f i) fun i _ => by show (c i - (if i = p then s else 0)) * f i = _; grind, rs_sub,
            rs_one (f := fun i => (if i = p then s else 0) * f i) hp (fun x _ hx => by show (if x = p then s else 0) * f x = 0; rw [if_neg hx]; grind), if_pos rfl,
            rs_congr (f := fun i => c i * (f i - q i * f p)) (g := fun i => c i * f i - (c i * q i) * f p) fun i _ => by grind, rs_sub, rs_mulR]
        refine .inr ⟨c', fun j hj => ?_, ?_⟩
        · rw [key fun i => R i j]
          by_cases e : j = N
          · subst e; exact rs_zero fun i _ => by rw [hq i]; grind
          · exact hc j (by omega)
        · rw [key b]; exact hb
def mv (N : Nat) (M : Nat → Nat → Rat) (v : Nat → Rat) (x : Nat) : Rat := rs N (fun y => M x y * v y)
def bf (N : Nat) (M : Nat → Nat → Rat) (v w : Nat → Rat) : Rat := rs N (fun x => v x * mv N M w x)
theorem mv_sub {N : Nat} {M : Nat → Nat → Rat} {v w : Nat → Rat} {x : Nat} : mv N M (fun y => v y - w y) x = mv N M v x - mv N M w x := by
  unfold mv; rw [rs_congr (g := fun y => M x y * v y - M x y * w y) fun y _ => by grind, rs_sub]
theorem mv_add {N : Nat} {M : Nat → Nat → Rat} {v w : Nat → Rat} {x : Nat} : mv N M (fun y => v y + w y) x = mv N M v x + mv N M w x := by
  unfold mv; rw [rs_congr (g := fun y => M x y * v y + M x y * w y) fun y _ => by grind, rs_add]
theorem mv_mul {N : Nat} {M : Nat → Nat → Rat} {c : Rat} {v : Nat → Rat} {x : Nat} : mv N M (fun y => c * v y) x = c * mv N M v x := by
  unfold mv; rw [rs_congr (g := fun y => c * (M x y * v y)) fun y _ => by grind, rs_mul]
theorem bf_comm {N : Nat} {M : Nat → Nat → Rat} (hs : ∀ x y, x < N → y < N → M x y = M y x) (v w : Nat → Rat) : bf N M v w = bf N M w v := by
  unfold bf mv
  rw [rs_congr (g := fun x => rs N (fun y => v x * (M x y * w y))) fun x _ => rs_mul.symm, rs_swap]
  refine rs_congr fun y hy => ?_
  rw [← rs_mul]
  exact rs_congr fun x hx => by rw [hs x y hx hy]; grind
section
variable {N : Nat} {M : Nat → Nat → Rat} {h : Nat → Rat}
abbrev dg (N : Nat) (M : Nat → Nat → Rat) (h : Nat → Rat) (x : Nat) : Rat := mv N M h x / h x
theorem mv_nn (hn : ∀ x y, x < N → y < N → 0 ≤ M x y) (hp : ∀ x, x < N → 0 < h x) {x : Nat} (hx : x < N) : 0 ≤ mv N M h x := rs_nn fun y hy => Rat.mul_nonneg (hn x y hx hy) (by have := hp y hy; grind)
theorem row_0 (hn : ∀ x y, x < N → y < N → 0 ≤ M x y) (hp : ∀ x, x < N → 0 < h x) {x : Nat} (hx : x < N) (h0 : mv N M h x = 0) : ∀ y, y < N → M x y = 0 := fun y hy => by
  have := rs_each (f := fun y => M x y * h y) (fun y hy => Rat.mul_nonneg (hn x y hx hy) (by have := hp y hy; grind)) (by have : rs N (fun y => M x y * h y) = 0 := h0; grind) y hy
  have h1 := hp y hy
  have h2 : h y ≠ 0 := by grind
  rcases Rat.mul_eq_zero.1 this with h3 | h3
  · exact h3
  · exact absurd h3 h2
theorem perron (hs : ∀ x y, x < N → y < N → M x y = M y x) (hp : ∀ x, x < N → 0 < h x) (a : Nat → Rat) : rs N (fun x => rs N (fun y => M x y * ((a x * h y - a y * h x) * (a x * h y - a y * h x)) / (h x * h y))) = 2 * (rs N (fun x => dg N M h x * (a x * a x)) - bf N M a a) := by
  have e1 : ∀ x, x < N → ∀ y, y < N → M x y * ((a x * h y - a y * h x) * (a x * h y - a y * h x)) / (h x * h y) = (a x * a x / h x) * (M x y * h y) - 2 * (a x * (M x y * a y)) + (a y * a y / h y) * (M y x * h x) := fun x hx y hy => by
    rw [hs y x hy hx]
    have h1 : h x ≠ 0 := by have := hp x hx; grind
    have h2 : h y ≠ 0 := by have := hp y hy; grind
    grind
  rw [rs_congr fun x hx => rs_congr fun y hy => e1 x hx y hy]
  rw [rs_congr (g := fun x => (a x * a x / h x) * mv N M h x - 2 * (a x * mv N M a x) + rs N (fun y => (a y * a y / h y) * (M y x * h x))) fun x _ => by rw [rs_add, rs_sub, rs_mul, rs_mul, rs_mul]; rfl]
  rw [rs_add, rs_sub, rs_mul]
  have e2 : rs N (fun x => rs N (fun y => (a y * a y / h y) * (M y x * h x))) = rs N (fun y => (a y * a y / h y) * mv N M h y) := by
    rw [rs_swap]; exact rs_congr fun y _ => by rw [rs_mul]; rfl
  rw [e2]
  have e3 : rs N (fun x => dg N M h x * (a x * a x)) = rs N (fun x => (a x * a x / h x) * mv N M h x) := rs_congr fun x hx => by
    have h1 : h x ≠ 0 := by have := hp x hx; grind
    show mv N M h x / h x * (a x * a x) = _
    grind
  rw [e3]; unfold bf; grind
theorem loc_glob (hs : ∀ x y, x < N → y < N → M x y = M y x) (hn : ∀ x y, x < N → y < N → 0 ≤ M x y) (hp : ∀ x, x < N → 0 < h x)
    (star : ∀ v, bf N M v v ≤ rs N (fun x => mv N M v x * mv N M v x / dg N M h x))
    (conn : ∀ u : Nat → Rat, (∀ x y, x < N → y < N → M x y ≠ 0 → u x * h y = u y * h x) → ∃ c, ∀ x, x < N → mv N M h x ≠ 0 → u x = c * h x)
    (z : Nat → Rat) (hz : bf N M z h = 0) : bf N M z z ≤ 0 := by
  have hne : ∀ x, x < N → h x ≠ 0 := fun x hx => by have := hp x hx; grind
  have hterm : ∀ (a : Nat → Rat) x, x < N → ∀ y, y < N → 0 ≤ M x y * ((a x * h y - a y * h x) * (a x * h y - a y * h x)) / (h x * h y) := fun a x hx y hy => by
    have h1 := Rat.mul_nonneg (hn x y hx hy) (sq_nn (a x * h y - a y * h x))
    have h2 := Rat.mul_pos (hp x hx) (hp y hy)
    exact div_nn h1 h2
  have per : ∀ a : Nat → Rat, bf N M a a ≤ rs N (fun x => dg N M h x * (a x * a x)) := fun a => by
    have h1 := perron hs hp a
    have h2 := rs_nn (n := N) fun x hx => rs_nn (n := N) fun y hy => hterm a x hx y hy
    grind
  have hdg : ∀ x, x < N → dg N M h x * h x = mv N M h x := fun x hx => by have := hne x hx; show mv N M h x / h x * h x = _; grind
  rcases fred (m := N) N (fun x y => (if x = y then dg N M h x else 0) - M x y) (fun x => dg N M h x * z x) with ⟨y, hy⟩ | ⟨c, hc, hb⟩
  · have hy : ∀ x, x < N → dg N M h x * y x - mv N M y x = dg N M h x * z x := fun x hx => by
      rw [← hy x hx, rs_congr (g := fun j => (if x = j then dg N M h x else 0) * y j - M x j * y j) fun j _ => by grind, rs_sub,
        rs_one (f := fun j => (if x = j then dg N M h x else 0) * y j) hx (fun j _ hj => by show (if x = j then _ else (0 : Rat)) * y j = 0; rw [if_neg (fun e => hj e.symm)]; grind), if_pos rfl]; rfl
    let a : Nat → Rat := fun x => mv N M y x / dg N M h x
    have hrow : ∀ x, x < N → dg N M h x = 0 → ∀ j, j < N → M x j = 0 := fun x hx h0 => row_0 hn hp hx (by have := hdg x hx; rw [h0] at this; grind)
    have ha : ∀ x, x < N → dg N M h x * a x = mv N M y x := fun x hx => by
      by_cases h0 : dg N M h x = 0
      · have : mv N M y x = 0 := rs_zero fun j hj => by rw [hrow x hx h0 j hj]; grind
        rw [this, h0]; grind
      · show dg N M h x * (mv N M y x / dg N M h x) = _; grind
    have hzx : ∀ x, x < N → dg N M h x ≠ 0 → z x = y x - a x := fun x hx h0 => by
      have h1 := hy x hx; have h2 := ha x hx
      have h3 : dg N M h x * (y x - a x - z x) = 0 := by grind
      rcases Rat.mul_eq_zero.1 h3 with h4 | h4
      · exact absurd h4 h0
      · grind
    have hmz : ∀ x, x < N → mv N M z x = mv N M y x - mv N M a x := fun x hx => by
      rw [← mv_sub]
      refine rs_congr fun j hj => ?_
      by_cases h0 : dg N M h j = 0
      · rw [hs x j hx hj, hrow j hj h0 x hx]; grind
      · rw [hzx j hj h0]
    have e1 : bf N M z z = rs N (fun x => (y x - a x) * (mv N M y x - mv N M a x)) := rs_congr fun x hx => by
      show z x * mv N M z x = _
      by_cases h0 : dg N M h x = 0
      · have k : ∀ v, mv N M v x = 0 := fun v => rs_zero fun j hj => by rw [hrow x hx h0 j hj]; grind
        rw [k, k, k]; grind
      · rw [hmz x hx, hzx x hx h0]
    have e2 : rs N (fun x => (y x - a x) * (mv N M y x - mv N M a x)) = bf N M y y - rs N (fun x => a x * mv N M y x) - bf N M y a + bf N M a a := by
      rw [rs_congr (g := fun x => y x * mv N M y x - a x * mv N M y x - y x * mv N M a x + a x * mv N M a x) fun x _ => by grind, rs_add, rs_sub, rs_sub]; rfl
    have e3 : bf N M y a = rs N (fun x => a x * mv N M y x) := bf_comm hs y a
    have e4 : rs N (fun x => a x * mv N M y x) = rs N (fun x => dg N M h x * (a x * a x)) := rs_congr fun x hx => by rw [← ha x hx]; grind
    have e5 : rs N (fun x => mv N M y x * mv N M y x / dg N M h x) = rs N (fun x => dg N M h x * (a x * a x)) := rs_congr fun x hx => by
      rw [← ha x hx]
      by_cases h0 : dg N M h x = 0
      · rw [h0]; grind
      · grind
    have h1 := star y
    have h2 := per a
    rw [e5] at h1
    rw [e1, e2, e3, e4]; grind
  · exfalso
    have hc : ∀ x, x < N → dg N M h x * c x = mv N M c x := fun x hx => by
      have := hc x hx
      rw [rs_congr (g := fun i => c i * (if i = x then dg N M h i else 0) - M x i * c i) fun i hi => by rw [hs x i hx hi]; grind, rs_sub,
        rs_one (f := fun i => c i * (if i = x then dg N M h i else 0)) hx (fun j _ hj => by show c j * (if j = x then _ else (0 : Rat)) = 0; rw [if_neg hj]; grind), if_pos rfl] at this
      have e : mv N M c x = rs N (fun i => M x i * c i) := rfl
      rw [e]; grind
    have h0 : bf N M c c = rs N (fun x => dg N M h x * (c x * c x)) := rs_congr fun x hx => by rw [← hc x hx]; grind
    have hp2 := perron hs hp c
    rw [h0] at hp2
    have hz2 : ∀ x, x < N → ∀ y, y < N → M x y * ((c x * h y - c y * h x) * (c x * h y - c y * h x)) / (h x * h y) = 0 := fun x hx y hy =>
      rs_each (fun y hy => hterm c x hx y hy) (by have := rs_each (f := fun x => rs N (fun y => M x y * ((c x * h y - c y * h x) * (c x * h y - c y * h x)) / (h x * h y))) (fun x hx => rs_nn fun y hy => hterm c x hx y hy) (by grind) x hx; grind) y hy
    obtain ⟨k, hk⟩ := conn c fun x y hx hy hm => by
      have h1 := hz2 x hx y hy
      have h2 : h x * h y ≠ 0 := by have := Rat.mul_pos (hp x hx) (hp y hy); grind
      have h3 : M x y * ((c x * h y - c y * h x) * (c x * h y - c y * h x)) = 0 := by grind
      rcases Rat.mul_eq_zero.1 h3 with h4 | h4
      · exact absurd h4 hm
      · have := sq_0 (a := c x * h y - c y * h x) (by grind); grind
    refine hb ?_
    have e1 : rs N (fun i => c i * (dg N M h i * z i)) = rs N (fun i => k * (z i * mv N M h i)) := rs_congr fun x hx => by
      have h1 := hdg x hx
      by_cases h2 : mv N M h x = 0
      · have : dg N M h x = 0 := by show mv N M h x / h x = 0; rw [h2]; grind
        rw [this, h2]; grind
      · rw [hk x hx h2, ← h1]; grind
    rw [e1, rs_mul]
    have e2 : rs N (fun i => z i * mv N M h i) = bf N M z h := rfl
    rw [e2, hz]; grind
theorem disc {X V W a b : Rat} (hV : 0 < V) (hW : 0 < W) (hb : b ≠ 0) (h : a * a * W - 2 * (a * b * X) + b * b * V ≤ 0) : V * W ≤ X * X := by
  have hbb : 0 < b * b := by have := sq_nn b; have : b * b ≠ 0 := fun e => hb (sq_0 (by grind)); grind
  have ha : a ≠ 0 := fun e => by
    rw [e] at h
    have := Rat.mul_pos hbb hV; grind
  have haa : 0 < a * a := by have := sq_nn a; have : a * a ≠ 0 := fun e => ha (sq_0 (by grind)); grind
  have h1 : a * a * W + b * b * V ≤ 2 * (a * b * X) := by grind
  have p1 : 0 < a * a * W + b * b * V := by have := Rat.mul_pos haa hW; have := Rat.mul_pos hbb hV; grind
  have h2 : (a * a * W + b * b * V) * (a * a * W + b * b * V) ≤ (2 * (a * b * X)) * (2 * (a * b * X)) := by
    have q1 := Rat.mul_le_mul_of_nonneg_left h1 (show (0 : Rat) ≤ a * a * W + b * b * V by grind)
    have q2 := Rat.mul_le_mul_of_nonneg_right h1 (show (0 : Rat) ≤ 2 * (a * b * X) by grind)
    grind
  have h3 := sq_nn (a * a * W - b * b * V)
  have h4 : 4 * (a * a * (b * b)) * (V * W) ≤ 4 * (a * a * (b * b)) * (X * X) := by grind
  have p2 : 0 < 4 * (a * a * (b * b)) := by have := Rat.mul_pos haa hbb; grind
  exact Rat.le_of_mul_le_mul_left h4 p2
theorem bf_lin (hs : ∀ x y, x < N → y < N → M x y = M y x) (v w : Nat → Rat) (p q : Rat) : bf N M (fun x => p * v x + q * w x) (fun x => p * v x + q * w x) = p * p * bf N M v v + 2 * (p * q * bf N M v w) + q * q * bf N M w w := by
  have e1 : ∀ x, mv N M (fun x => p * v x + q * w x) x = p * mv N M v x + q * mv N M w x := fun x => by rw [mv_add, mv_mul, mv_mul]
  have e2 : bf N M (fun x => p * v x + q * w x) (fun x => p * v x + q * w x) = rs N (fun x => p * p * (v x * mv N M v x) + p * q * (v x * mv N M w x) + p * q * (w x * mv N M v x) + q * q * (w x * mv N M w x)) := rs_congr fun x _ => by show _ * mv N M (fun x => p * v x + q * w x) x = _; rw [e1]; grind
  rw [e2, rs_add, rs_add, rs_add, rs_mul, rs_mul, rs_mul, rs_mul]
  have e3 : rs N (fun x => w x * mv N M v x) = bf N M v w := bf_comm hs w v
  rw [e3]; unfold bf; grind
theorem bf_lin1 (v w u : Nat → Rat) (p q : Rat) : bf N M (fun x => p * v x + q * w x) u = p * bf N M v u + q * bf N M w u := by
  unfold bf
  rw [rs_congr (g := fun x => p * (v x * mv N M u x) + q * (w x * mv N M u x)) fun x _ => by grind, rs_add, rs_mul, rs_mul]
theorem rev_cs (hs : ∀ x y, x < N → y < N → M x y = M y x) (hz : ∀ z, bf N M z h = 0 → bf N M z z ≤ 0) (v w : Nat → Rat) (hw : 0 ≤ bf N M w w) : bf N M v v * bf N M w w ≤ bf N M v w * bf N M v w := by
  have hX := sq_nn (bf N M v w)
  by_cases hv : 0 < bf N M v v
  · by_cases hw0 : bf N M w w = 0
    · rw [hw0]; grind
    · have hw1 : 0 < bf N M w w := by grind
      refine disc (a := bf N M v h) (b := bf N M w h) hv hw1 (fun e => by have := hz w e; grind) ?_
      have h1 := hz (fun x => bf N M v h * w x + (- bf N M w h) * v x) (by rw [bf_lin1]; grind)
      rw [bf_lin hs, bf_comm hs w v] at h1
      grind
  · have : bf N M v v * bf N M w w ≤ 0 := by
      have := Rat.mul_nonneg (show (0 : Rat) ≤ - bf N M v v by grind) hw; grind
    grind
end
theorem lim_0 {a b c : Rat} (h : ∀ t : Rat, 0 < t → t < 1 → 0 ≤ a * (t * t) + b * t + c) : 0 ≤ c := by
  refine Classical.byContradiction fun hc => ?_
  have hc : c < 0 := by grind
  let B : Rat := a * a + b * b + 2 - c
  have hB : 0 < B := by have := sq_nn a; have := sq_nn b; show 0 < a * a + b * b + 2 - c; grind
  let t : Rat := (-c) / (2 * B)
  have ht : t * (2 * B) = -c := by have : (2 * B) ≠ 0 := by grind
                                   show (-c) / (2 * B) * (2 * B) = -c; grind
  have hB2 : 0 < 2 * B := by grind
  have t0 : 0 < t := div_ps (by grind) hB2
  have t1 : t < 1 := by
    refine Classical.byContradiction fun h1 => ?_
    have := Rat.mul_le_mul_of_nonneg_right (show (1 : Rat) ≤ t by grind) (show (0 : Rat) ≤ 2 * B by grind)
    have := sq_nn a; have := sq_nn b
    have hBd : B = a * a + b * b + 2 - c := rfl
    grind
  have h2 := h t t0 t1
  have q1 : a * (t * t) ≤ (a * a + 1) * t := by
    have e1 : a ≤ a * a + 1 := by have := sq_nn (a - 1); have := sq_nn a; have := sq_nn (2 * a - 1); grind
    have e2 : a * t ≤ (a * a + 1) * t := Rat.mul_le_mul_of_nonneg_right e1 (by grind)
    by_cases ha : 0 ≤ a
    · have e3 : t * t ≤ t * 1 := Rat.mul_le_mul_of_nonneg_left (by grind) (by grind)
      have e4 := Rat.mul_le_mul_of_nonneg_left e3 ha
      grind
    · have e3 := Rat.mul_nonneg (show (0 : Rat) ≤ -a by grind) (sq_nn t)
      have e4 := Rat.mul_nonneg (show (0 : Rat) ≤ a * a + 1 by have := sq_nn a; grind) (show (0 : Rat) ≤ t by grind)
      grind
  have q2 : b * t ≤ (b * b + 1) * t := Rat.mul_le_mul_of_nonneg_right (by have := sq_nn (2 * b - 1); have := sq_nn b; grind) (by grind)
  have q3 : (a * a + 1) * t + (b * b + 1) * t = (B + c) * t := by have hBd : B = a * a + b * b + 2 - c := rfl; grind
  have q4 : c * t ≤ 0 := by have := Rat.mul_pos (show (0 : Rat) < -c by grind) t0; grind
  grind
theorem lim_1 {a b c : Rat} (h : ∀ t : Rat, 0 < t → t < 1 → 0 ≤ a * (t * t) + b * t + c) : 0 ≤ a + b + c := by
  refine lim_0 (a := a) (b := - 2 * a - b) fun t h0 h1 => ?_
  have := h (1 - t) (by grind) (by grind)
  grind
end Go.Proofs.Ythmibifghihdaaa
end

section
namespace Go.Proofs.Ythmibifghihdaaa
set_option maxRecDepth 20000
structure Sys where
  D : Nat
  ok : Nat → Nat → Bool
  tp : Nat → Bool
  fin : Nat → Bool
  o1 : ∀ {m a b}, ok m a = true → ok m b = true → ok (ad m a) b = true → ok (ad m b) a = true
  o3 : ∀ {m a b}, ok m a = true → ok (ad m a) b = true → ok m b = false → tp a = tp b
  o4 : ∀ {m a b c}, ok m a = true → ok m b = true → ok (ad m a) c = true → ok (ad m b) c = true → ok m c = false → a = b
  o6 : ∀ {m a b c}, ok m c = true → ok (ad (ad m a) b) c = true → ok (ad m a) c = true
theorem ad_comm {m a b : Nat} : ad (ad m a) b = ad (ad m b) a := by unfold ad; rw [Nat.or_assoc, Nat.or_comm (1 <<< a), Nat.or_assoc]
namespace Sys
variable (S : Sys)
def GB : Nat → Nat → Rat
  | 0, m => if S.fin m = true then 1 else 0
  | j + 1, m => rs S.D fun c => if (S.ok m c && !S.tp c) = true then GB j (ad m c) else 0
def GG : Nat → Nat → Nat → Rat
  | 0, j, m => S.GB j m
  | i + 1, j, m => rs S.D fun c => if (S.ok m c && S.tp c) = true then GG i j (ad m c) else 0
theorem GB_nn : ∀ j m, 0 ≤ S.GB j m
  | 0, m => by unfold GB; split <;> decide
  | j + 1, m => rs_nn fun c _ => by split; exact GB_nn j _; exact Rat.le_refl
theorem GG_nn : ∀ i j m, 0 ≤ S.GG i j m
  | 0, j, m => S.GB_nn j m
  | i + 1, j, m => rs_nn fun c _ => by split; exact GG_nn i j _; exact Rat.le_refl
theorem GG_u : ∀ i j m, S.GG i (j + 1) m = rs S.D fun c => if (S.ok m c && !S.tp c) = true then S.GG i j (ad m c) else 0
  | 0, j, m => rfl
  | i + 1, j, m => by
    show rs S.D (fun a => if (S.ok m a && S.tp a) = true then S.GG i (j + 1) (ad m a) else 0) = rs S.D (fun c => if (S.ok m c && !S.tp c) = true then rs S.D (fun a => if (S.ok (ad m c) a && S.tp a) = true then S.GG i j (ad (ad m c) a) else 0) else 0)
    rw [rs_congr (g := fun a => rs S.D fun c => if (S.ok m a && S.tp a && (S.ok (ad m a) c && !S.tp c)) = true then S.GG i j (ad (ad m a) c) else 0) fun a _ => by
      cases h : (S.ok m a && S.tp a) with
      | false => rw [if_neg (by simp), rs_zero fun c _ => by rw [if_neg (by simp)]]
      | true => rw [if_pos rfl, GG_u i j]; exact rs_congr fun c _ => by rw [Bool.true_and]]
    rw [rs_swap]
    refine rs_congr fun c _ => ?_
    have e : ∀ a, (S.ok m a && S.tp a && (S.ok (ad m a) c && !S.tp c)) = (S.ok m c && !S.tp c && (S.ok (ad m c) a && S.tp a)) := fun a => by
      rw [Bool.eq_iff_iff]
      simp only [Bool.and_eq_true, Bool.not_eq_true']
      constructor
      · rintro ⟨⟨h1, h2⟩, h3, h4⟩
        have h5 : S.ok m c = true := by
          cases h : S.ok m c with
          | true => rfl
          | false => have := S.o3 h1 h3 h; rw [h2, h4] at this; cases this
        exact ⟨⟨h5, h4⟩, S.o1 h1 h5 h3, h2⟩
      · rintro ⟨⟨h1, h2⟩, h3, h4⟩
        have h5 : S.ok m a = true := by
          cases h : S.ok m a with
          | true => rfl
          | false => have := S.o3 h1 h3 h; rw [h2, h4] at this; cases this
        exact ⟨⟨h5, h4⟩, S.o1 h1 h5 h3, h2⟩
    cases h : (S.ok m c && !S.tp c) with
    | false => rw [if_neg (by simp), rs_zero fun a _ => by rw [e, h, if_neg (by simp)]]
    | true => rw [if_pos rfl]; exact rs_congr fun a _ => by rw [e, h, Bool.true_and, ad_comm]
def hh (t : Rat) (c : Nat) : Rat := if S.tp c = true then 1 - t else t
theorem hh_pos {t : Rat} (h0 : 0 < t) (h1 : t < 1) (c : Nat) : 0 < S.hh t c := by unfold hh; split <;> grind
def gt' (t : Rat) (i j m : Nat) : Rat := t * S.GG i (j + 1) m + (1 - t) * S.GG (i + 1) j m
theorem gt_sum (t : Rat) (i j m : Nat) : S.gt' t i j m = rs S.D fun c => if S.ok m c = true then S.hh t c * S.GG i j (ad m c) else 0 := by
  unfold gt'
  rw [GG_u, ← rs_mul]
  show _ + (1 - t) * rs S.D _ = _
  rw [← rs_mul, ← rs_add]
  refine rs_congr fun c _ => ?_
  unfold hh
  cases S.ok m c <;> cases S.tp c <;> simp <;> grind
theorem gt_nn {t : Rat} (h0 : 0 < t) (h1 : t < 1) (i j m : Nat) : 0 ≤ S.gt' t i j m := by
  have a1 := Rat.mul_nonneg (show 0 ≤ t by grind) (S.GG_nn i (j + 1) m)
  have a2 := Rat.mul_nonneg (show 0 ≤ 1 - t by grind) (S.GG_nn (i + 1) j m)
  unfold gt'; grind
def kw (g : Nat → Rat) (m a b : Nat) : Rat := if (S.ok m a && S.ok (ad m a) b) = true then g (ad (ad m a) b) else 0
def rho (m a b : Nat) : Nat := if S.ok m b = true then b else a
def Q (g : Nat → Rat) (m x y : Nat) : Rat := rs S.D fun b => if S.rho m x b = y then S.kw g m x b else 0
theorem rho_lt {m a b D : Nat} (ha : a < D) (hb : b < D) : S.rho m a b < D := by unfold rho; split <;> assumption
theorem kw_ok {g : Nat → Rat} {m a b : Nat} (h : S.ok m a = false) : S.kw g m a b = 0 := by unfold kw; rw [h]; rfl
theorem mv_Q {g : Nat → Rat} {m c : Nat} (hc : c < S.D) (w : Nat → Rat) : mv S.D (S.Q g m) w c = rs S.D fun b => S.kw g m c b * w (S.rho m c b) := by
  unfold mv Q
  rw [rs_congr (g := fun y => rs S.D fun b => (if S.rho m c b = y then S.kw g m c b else 0) * w y) fun y _ => rs_mulR.symm, rs_swap]
  refine rs_congr fun b hb => ?_
  rw [rs_one (S.rho_lt hc hb) fun y _ hy => by rw [if_neg fun e => hy e.symm]; grind, if_pos rfl]
theorem mv_0 {g : Nat → Rat} {m c : Nat} (hc : c < S.D) (h : S.ok m c = false) (w : Nat → Rat) : mv S.D (S.Q g m) w c = 0 := by
  rw [mv_Q S hc]; exact rs_zero fun b _ => by rw [kw_ok S h]; grind
theorem Q_ne {g : Nat → Rat} {m x y : Nat} (hy : y < S.D) (h : x ≠ y) : S.Q g m x y = if S.ok m y = true then S.kw g m x y else 0 := by
  unfold Q
  rw [rs_one (a := y) hy fun b _ hb => if_neg fun e => by
    unfold rho at e; split at e
    · exact hb e
    · exact h e]
  unfold rho
  by_cases h2 : S.ok m y = true
  · rw [if_pos h2, if_pos rfl, if_pos h2]
  · rw [if_neg h2, if_neg h, if_neg h2]
theorem Q_sym {g : Nat → Rat} {m x y : Nat} (hx : x < S.D) (hy : y < S.D) : S.Q g m x y = S.Q g m y x := by
  by_cases h : x = y
  · rw [h]
  · rw [Q_ne S hy h, Q_ne S hx (Ne.symm h)]
    cases h1 : S.ok m x with
    | false => rw [kw_ok S h1]; simp
    | true =>
      cases h2 : S.ok m y with
      | false => rw [kw_ok S h2]; simp
      | true =>
        simp only [if_true]
        unfold kw
        rw [h1, h2, Bool.true_and, Bool.true_and, ad_comm]
        have : S.ok (ad m x) y = S.ok (ad m y) x := by
          rw [Bool.eq_iff_iff]; exact ⟨S.o1 h1 h2, S.o1 h2 h1⟩
        rw [this]
theorem Q_nn {g : Nat → Rat} (hg : ∀ m, 0 ≤ g m) (m x y : Nat) : 0 ≤ S.Q g m x y := rs_nn fun b _ => by
  split
  · unfold kw; split
    · exact hg _
    · exact Rat.le_refl
  · exact Rat.le_refl
theorem bf_congr {g : Nat → Rat} {m : Nat} {v v' w : Nat → Rat} (h : ∀ b, b < S.D → S.ok m b = true → v b = v' b) : bf S.D (S.Q g m) v w = bf S.D (S.Q g m) v' w := rs_congr fun b hb => by
  cases e : S.ok m b with
  | true => rw [h b hb e]
  | false => rw [mv_0 S hb e]; grind
def Tv (m c : Nat) (v : Nat → Rat) (b : Nat) : Rat := v (S.rho m c b)
theorem hh_rho {t : Rat} {m a b : Nat} (h1 : S.ok m a = true) (h2 : S.ok (ad m a) b = true) : S.hh t (S.rho m a b) = S.hh t b := by
  unfold rho
  split
  · rfl
  · rename_i h; unfold hh; rw [S.o3 h1 h2 (by simpa using h)]
theorem row_h {t : Rat} {i j m b : Nat} (hb : b < S.D) : mv S.D (S.Q (S.GG i j) m) (S.hh t) b = if S.ok m b = true then S.gt' t i j (ad m b) else 0 := by
  rw [mv_Q S hb]
  cases h : S.ok m b with
  | false => rw [rs_zero fun e _ => by rw [kw_ok S h]; grind]; simp
  | true =>
    rw [if_pos rfl, gt_sum]
    refine rs_congr fun e _ => ?_
    unfold kw
    rw [h, Bool.true_and]
    cases h2 : S.ok (ad m b) e with
    | false => simp
    | true => rw [if_pos rfl, if_pos rfl, hh_rho S h h2]; grind
theorem inh {t : Rat} {i j m c : Nat} (hc : c < S.D) (v : Nat → Rat) : mv S.D (S.Q (S.gt' t i j) m) v c = if S.ok m c = true then bf S.D (S.Q (S.GG i j) (ad m c)) (S.Tv m c v) (S.hh t) else 0 := by
  cases h : S.ok m c with
  | false => rw [mv_0 S hc h]; simp
  | true =>
    rw [mv_Q S hc, if_pos rfl]
    refine rs_congr fun b hb => ?_
    rw [row_h S hb]
    unfold kw Tv
    rw [h, Bool.true_and]
    cases S.ok (ad m c) b <;> simp <;> grind
theorem inh_h {t : Rat} {i j m c : Nat} (h : S.ok m c = true) : bf S.D (S.Q (S.GG i j) (ad m c)) (S.Tv m c (S.hh t)) (S.hh t) = bf S.D (S.Q (S.GG i j) (ad m c)) (S.hh t) (S.hh t) :=
  bf_congr S fun b _ hb => hh_rho S h hb
def rho3 (m a b e : Nat) : Nat := S.rho m a (S.rho (ad m a) b e)
def W3 (i j m a b e : Nat) : Rat := if (S.ok m a && S.ok (ad m a) b && S.ok (ad (ad m a) b) e) = true then S.GG i j (ad (ad (ad m a) b) e) else 0
def Gt (t : Rat) (v : Nat → Rat) (i j m a b e : Nat) : Rat := (S.hh t a * v (S.rho m a b) - v a * S.hh t b) * (v (S.rho3 m a b e) * S.W3 i j m a b e)
theorem W3_0 {i j m a b e : Nat} (h : S.ok m a = false) : S.W3 i j m a b e = 0 := by unfold W3; rw [h]; rfl
theorem W3_nn {i j m a b e : Nat} : 0 ≤ S.W3 i j m a b e := by unfold W3; split; exact S.GG_nn _ _ _; exact Rat.le_refl
theorem Gt_new {t : Rat} {v : Nat → Rat} {i j m a b e : Nat} (hb : S.ok m b = false) : S.Gt t v i j m a b e = 0 := by
  unfold Gt
  by_cases h : S.ok m a = true ∧ S.ok (ad m a) b = true
  · have h1 := S.o3 h.1 h.2 hb
    have h2 : S.rho m a b = a := by unfold rho; rw [hb]; rfl
    have h3 : S.hh t a = S.hh t b := by unfold hh; rw [h1]
    rw [h2, h3]; grind
  · have : S.W3 i j m a b e = 0 := by
      unfold W3
      rw [if_neg]
      simp only [Bool.and_eq_true]
      rintro ⟨h1, _⟩; exact h h1
    rw [this]; grind
theorem Gt_both {t : Rat} (h0 : 0 < t) (h1 : t < 1) {v : Nat → Rat} {i j m a b e : Nat} : 0 ≤ S.Gt t v i j m a b e + S.Gt t v i j m b a e := by
  cases ha : S.ok m a with
  | false =>
    have e1 : S.Gt t v i j m a b e = 0 := by unfold Gt; rw [W3_0 S ha]; grind
    rw [e1, Gt_new S ha]; grind
  | true =>
    cases hb : S.ok m b with
    | false =>
      have e1 : S.Gt t v i j m b a e = 0 := by unfold Gt; rw [W3_0 S hb]; grind
      rw [e1, Gt_new S hb]; grind
    | true =>
      have r1 : S.rho m a b = b := by unfold rho; rw [if_pos hb]
      have r2 : S.rho m b a = a := by unfold rho; rw [if_pos ha]
      have hab : S.ok (ad m a) b = S.ok (ad m b) a := by rw [Bool.eq_iff_iff]; exact ⟨S.o1 ha hb, S.o1 hb ha⟩
      have hW : S.W3 i j m b a e = S.W3 i j m a b e := by
        unfold W3; rw [ha, hb, Bool.true_and, Bool.true_and, ← hab, ad_comm (a := b)]
      by_cases hw : S.ok (ad m a) b = true ∧ S.ok (ad (ad m a) b) e = true
      · unfold Gt
        rw [hW, r1, r2]
        have hw2 : S.ok (ad (ad m b) a) e = true := by rw [ad_comm]; exact hw.2
        have key : S.rho3 m a b e = S.rho3 m b a e ∨ (S.rho3 m a b e = b ∧ S.rho3 m b a e = a ∧ S.hh t a = S.hh t b) := by
          unfold rho3
          cases he : S.ok m e with
          | true =>
            have q1 := S.o6 he hw.2
            have q2 := S.o6 he hw2
            left
            have : S.rho (ad m a) b e = e := by unfold rho; rw [if_pos q1]
            rw [this]
            have : S.rho (ad m b) a e = e := by unfold rho; rw [if_pos q2]
            rw [this]
            unfold rho; rw [if_pos he, if_pos he]
          | false =>
            have z1 : S.rho m a e = a := by unfold rho; rw [he]; rfl
            have z2 : S.rho m b e = b := by unfold rho; rw [he]; rfl
            cases h5 : S.ok (ad m a) e with
            | true =>
              have q1 : S.rho (ad m a) b e = e := by unfold rho; rw [if_pos h5]
              rw [q1, z1]
              cases h6 : S.ok (ad m b) e with
              | true =>
                have := S.o4 ha hb h5 h6 he
                left; subst this; rw [q1, z1]
              | false =>
                have q2 : S.rho (ad m b) a e = a := by unfold rho; rw [h6]; rfl
                left; rw [q2, r2]
            | false =>
              have q1 : S.rho (ad m a) b e = b := by unfold rho; rw [h5]; rfl
              rw [q1, r1]
              cases h6 : S.ok (ad m b) e with
              | true =>
                have q2 : S.rho (ad m b) a e = e := by unfold rho; rw [if_pos h6]
                left; rw [q2, z2]
              | false =>
                have q2 : S.rho (ad m b) a e = a := by unfold rho; rw [h6]; rfl
                right
                refine ⟨rfl, by rw [q2, r2], ?_⟩
                have t1 := S.o3 hw.1 hw.2 h5
                have t2 := S.o3 (hab ▸ hw.1) hw2 h6
                unfold hh; rw [t1, t2]
        rcases key with k | ⟨k1, k2, k3⟩
        · rw [k]; grind
        · rw [k1, k2, k3]
          have p1 := Rat.mul_nonneg (show 0 ≤ S.hh t b by have := S.hh_pos h0 h1 b; grind) (S.W3_nn (i := i) (j := j) (m := m) (a := a) (b := b) (e := e))
          have p2 := Rat.mul_nonneg p1 (sq_nn (v b - v a))
          grind
      · have : S.W3 i j m a b e = 0 := by
          unfold W3
          rw [if_neg]
          simp only [Bool.and_eq_true]
          rintro ⟨⟨_, h3⟩, h4⟩; exact hw ⟨h3, h4⟩
        unfold Gt; rw [hW, this]; grind
theorem bf_3 {i j m a : Nat} (h : S.ok m a = true) (u v : Nat → Rat) : bf S.D (S.Q (S.GG i j) (ad m a)) u (S.Tv m a v) = rs S.D fun b => rs S.D fun e => u b * (v (S.rho3 m a b e) * S.W3 i j m a b e) := by
  refine rs_congr fun b hb => ?_
  rw [mv_Q S hb, ← rs_mul]
  refine rs_congr fun e _ => ?_
  unfold kw W3 Tv rho3
  rw [h, Bool.true_and]
  cases S.ok (ad m a) b && S.ok (ad (ad m a) b) e <;> simp <;> grind
theorem rows_ge {t : Rat} (h0 : 0 < t) (h1 : t < 1) {i j m : Nat} (v : Nat → Rat) : bf S.D (S.Q (S.gt' t i j) m) v v ≤ rs S.D fun a => if S.ok m a = true then S.hh t a * bf S.D (S.Q (S.GG i j) (ad m a)) (S.Tv m a v) (S.Tv m a v) else 0 := by
  have e1 : ∀ a, a < S.D → (if S.ok m a = true then S.hh t a * bf S.D (S.Q (S.GG i j) (ad m a)) (S.Tv m a v) (S.Tv m a v) else 0) - v a * mv S.D (S.Q (S.gt' t i j) m) v a = rs S.D fun b => rs S.D fun e => S.Gt t v i j m a b e := fun a ha => by
    rw [inh S ha]
    cases h : S.ok m a with
    | false => rw [rs_zero fun b _ => rs_zero fun e _ => by unfold Gt; rw [W3_0 S h]; grind]; simp; grind
    | true =>
      rw [if_pos rfl, if_pos rfl, bf_comm (fun x y hx hy => Q_sym S hx hy) (S.Tv m a v) (S.hh t), bf_3 S h, bf_3 S h, ← rs_mul, ← rs_mul, ← rs_sub]
      refine rs_congr fun b _ => ?_
      rw [← rs_mul, ← rs_mul, ← rs_sub]
      refine rs_congr fun e _ => ?_
      unfold Gt Tv; grind
  have e2 : 0 ≤ rs S.D fun a => rs S.D fun b => rs S.D fun e => S.Gt t v i j m a b e := by
    have h2 : rs S.D (fun a => rs S.D fun b => rs S.D fun e => S.Gt t v i j m a b e + S.Gt t v i j m b a e) = 2 * rs S.D fun a => rs S.D fun b => rs S.D fun e => S.Gt t v i j m a b e := by
      rw [rs_congr fun a _ => rs_congr fun b _ => rs_add, rs_congr fun a _ => rs_add, rs_add]
      have : rs S.D (fun a => rs S.D fun b => rs S.D fun e => S.Gt t v i j m b a e) = rs S.D (fun a => rs S.D fun b => rs S.D fun e => S.Gt t v i j m a b e) := by
        rw [rs_swap]
      rw [this]; grind
    have h3 := rs_nn (n := S.D) fun a _ => rs_nn (n := S.D) fun b _ => rs_nn (n := S.D) fun e _ => S.Gt_both h0 h1 (v := v) (i := i) (j := j) (m := m) (a := a) (b := b) (e := e)
    rw [h2] at h3; grind
  rw [← rs_congr e1, rs_sub] at e2
  unfold bf at e2 ⊢
  grind
def Hyp (i j m : Nat) : Prop := ∀ t : Rat, 0 < t → t < 1 → ∀ v, bf S.D (S.Q (S.GG i j) m) v v * bf S.D (S.Q (S.GG i j) m) (S.hh t) (S.hh t) ≤ bf S.D (S.Q (S.GG i j) m) v (S.hh t) * bf S.D (S.Q (S.GG i j) m) v (S.hh t)
theorem bf_nn {g : Nat → Rat} (hg : ∀ m, 0 ≤ g m) {m : Nat} {v w : Nat → Rat} (hv : ∀ c, 0 ≤ v c) (hw : ∀ c, 0 ≤ w c) : 0 ≤ bf S.D (S.Q g m) v w := rs_nn fun x _ => Rat.mul_nonneg (hv x) (rs_nn fun y _ => Rat.mul_nonneg (Q_nn S hg m x y) (hw y))
theorem bf_0 {g : Nat → Rat} (hg : ∀ m, 0 ≤ g m) {m : Nat} {h : Nat → Rat} (hp : ∀ c, 0 < h c) (h0 : bf S.D (S.Q g m) h h = 0) (v w : Nat → Rat) : bf S.D (S.Q g m) v w = 0 := by
  refine rs_zero fun x hx => ?_
  have h1 := rs_each (f := fun x => h x * mv S.D (S.Q g m) h x) (fun x hx => Rat.mul_nonneg (by have := hp x; grind) (mv_nn (fun x y _ _ => Q_nn S hg m x y) (fun x _ => hp x) hx)) (by have : rs S.D (fun x => h x * mv S.D (S.Q g m) h x) = 0 := h0; grind) x hx
  have h2 : mv S.D (S.Q g m) h x = 0 := by
    rcases Rat.mul_eq_zero.1 h1 with h3 | h3
    · have := hp x; grind
    · exact h3
  have h3 := row_0 (fun x y _ _ => Q_nn S hg m x y) (fun x _ => hp x) hx h2
  have : mv S.D (S.Q g m) w x = 0 := rs_zero fun y hy => by rw [h3 y hy]; grind
  rw [this]; grind
theorem step {t : Rat} (h0 : 0 < t) (h1 : t < 1) {i j m : Nat} (ih : ∀ c, c < S.D → S.ok m c = true → S.Hyp i j (ad m c))
    (conn : ∀ u : Nat → Rat, (∀ x y, x < S.D → y < S.D → S.Q (S.gt' t i j) m x y ≠ 0 → u x * S.hh t y = u y * S.hh t x) → ∃ c, ∀ x, x < S.D → mv S.D (S.Q (S.gt' t i j) m) (S.hh t) x ≠ 0 → u x = c * S.hh t x)
    (v w : Nat → Rat) (hw : ∀ c, 0 ≤ w c) : bf S.D (S.Q (S.gt' t i j) m) v v * bf S.D (S.Q (S.gt' t i j) m) w w ≤ bf S.D (S.Q (S.gt' t i j) m) v w * bf S.D (S.Q (S.gt' t i j) m) v w := by
  have hg := S.gt_nn h0 h1 i j
  refine rev_cs (h := S.hh t) (fun x y hx hy => Q_sym S hx hy) ?_ v w (bf_nn S hg hw hw)
  refine loc_glob (fun x y hx hy => Q_sym S hx hy) (fun x y _ _ => Q_nn S hg m x y) (fun x _ => S.hh_pos h0 h1 x) (fun v => ?_) conn
  refine Rat.le_trans (rows_ge S h0 h1 v) (rs_le fun x hx => ?_)
  have hp := S.hh_pos h0 h1 x
  cases h : S.ok m x with
  | false =>
    rw [mv_0 S hx h]; simp; grind
  | true =>
    rw [if_pos rfl]
    show _ ≤ _ / (mv S.D (S.Q (S.gt' t i j) m) (S.hh t) x / S.hh t x)
    rw [inh S hx, inh S hx, if_pos h, if_pos h, inh_h S h]
    have hyp := ih x hx h t h0 h1 (S.Tv m x v)
    have hB := bf_nn S (S.GG_nn i j) (m := ad m x) (fun c => by have := S.hh_pos h0 h1 c; grind) (fun c => by have := S.hh_pos h0 h1 c; grind) (v := S.hh t) (w := S.hh t)
    by_cases hz : bf S.D (S.Q (S.GG i j) (ad m x)) (S.hh t) (S.hh t) = 0
    · rw [bf_0 S (S.GG_nn i j) (fun c => S.hh_pos h0 h1 c) hz (S.Tv m x v) (S.Tv m x v), hz]; grind
    · generalize bf S.D (S.Q (S.GG i j) (ad m x)) (S.hh t) (S.hh t) = B at *
      generalize bf S.D (S.Q (S.GG i j) (ad m x)) (S.Tv m x v) (S.hh t) = X at *
      generalize bf S.D (S.Q (S.GG i j) (ad m x)) (S.Tv m x v) (S.Tv m x v) = V at *
      generalize S.hh t x = H at *
      have hB2 : 0 < B := by grind
      have e : X * X / (B / H) = H * (X * X / B) := by grind
      rw [e]
      refine Rat.mul_le_mul_of_nonneg_left ?_ (by grind)
      have e2 : X * X / B * B = X * X := by grind
      refine Rat.le_of_mul_le_mul_right (c := B) ?_ hB2
      rw [e2]; exact hyp
end Sys
end Go.Proofs.Ythmibifghihdaaa
end

section
namespace Go.Proofs.Ythmibifghihdaaa
set_option maxRecDepth 20000
def elc (n c : Nat) : Nat := if c < n then c else c - n
def opc' (n c : Nat) : Nat := if c < n then n + c else c - n
def nds (n : Nat) (ks : List (Nat × Nat)) : List (Nat × Nat) := ks ++ ks.map fun p => (n + p.2, n + p.1)
def okP (n z : Nat) (ks : List (Nat × Nat)) (m c : Nat) : Prop := c < 2 * n ∧ elc n c ≠ z ∧ m.testBit c = false ∧ m.testBit (opc' n c) = false ∧ ∀ p ∈ nds n ks, p.2 = c → m.testBit p.1 = true
instance {n z : Nat} {ks : List (Nat × Nat)} {m c : Nat} : Decidable (okP n z ks m c) := by unfold okP; infer_instance
section
variable {n z : Nat} {ks : List (Nat × Nat)}
theorem op_op {c : Nat} (h : c < 2 * n) : opc' n (opc' n c) = c := by
  unfold opc'
  by_cases h1 : c < n
  · rw [if_pos h1, if_neg (by omega)]; omega
  · rw [if_neg h1, if_pos (by omega)]; omega
theorem ad_F {m a b : Nat} : (ad m a).testBit b = false ↔ m.testBit b = false ∧ a ≠ b := by
  rw [ad_tb, Bool.or_eq_false_iff, decide_eq_false_iff_not]
theorem ad_T {m a b : Nat} : (ad m a).testBit b = true ↔ m.testBit b = true ∨ a = b := by
  rw [ad_tb, Bool.or_eq_true, decide_eq_true_eq]
theorem nds_mem {p : Nat × Nat} : p ∈ nds n ks ↔ p ∈ ks ∨ ∃ q ∈ ks, p = (n + q.2, n + q.1) := by
  unfold nds
  rw [List.mem_append, List.mem_map]
  constructor
  · rintro (h | ⟨q, h1, h2⟩)
    · exact .inl h
    · exact .inr ⟨q, h1, h2.symm⟩
  · rintro (h | ⟨q, h1, h2⟩)
    · exact .inl h
    · exact .inr ⟨q, h1, h2.symm⟩
theorem nds_tp (hv : VB n ks) {p : Nat × Nat} (h : p ∈ nds n ks) : p.1 < n ↔ p.2 < n := by
  rcases nds_mem.1 h with h | ⟨q, h, rfl⟩
  · have := hv.2.2.2 p h; constructor <;> intro _ <;> omega
  · simp only; omega
theorem ok_sub {m m' c : Nat} (h : okP n z ks m c) (hs : ∀ b, m.testBit b = true → m'.testBit b = true) (h1 : m'.testBit c = false) (h2 : m'.testBit (opc' n c) = false) : okP n z ks m' c := ⟨h.1, h.2.1, h1, h2, fun p hp e => hs _ (h.2.2.2.2 p hp e)⟩
theorem tb_ad {m a b : Nat} (h : m.testBit b = true) : (ad m a).testBit b = true := ad_T.2 (.inl h)
def sysR (n z : Nat) (ks : List (Nat × Nat)) (hv : VB n ks) : Sys where
  D := 2 * n
  ok m c := decide (okP n z ks m c)
  tp c := decide (c < n)
  fin m := decide (∀ x ∈ List.range n, x = z ∨ m.testBit x = true ∨ m.testBit (n + x) = true)
  o1 := fun {m a b} ha hb h => by
    rw [decide_eq_true_eq] at *
    have h1 := ad_F.1 h.2.2.1
    have h2 := ad_F.1 h.2.2.2.1
    refine ok_sub ha (fun _ => tb_ad) (ad_F.2 ⟨ha.2.2.1, Ne.symm h1.2⟩) (ad_F.2 ⟨ha.2.2.2.1, fun e => h2.2 ?_⟩)
    rw [e, op_op ha.1]
  o3 := fun {m a b} ha h hb => by
    rw [decide_eq_true_eq] at ha h
    rw [decide_eq_false_iff_not] at hb
    refine decide_eq_decide.2 (Classical.byContradiction fun hc => hb ?_)
    refine ⟨h.1, h.2.1, (ad_F.1 h.2.2.1).1, (ad_F.1 h.2.2.2.1).1, fun p hp e => ?_⟩
    rcases ad_T.1 (h.2.2.2.2 p hp e) with h1 | h1
    · exact h1
    · have := nds_tp hv hp
      rw [e, ← h1] at this; exact absurd this hc
  o4 := fun {m a b c} ha hb h1 h2 hc => by
    rw [decide_eq_true_eq] at ha hb h1 h2
    rw [decide_eq_false_iff_not] at hc
    refine Classical.byContradiction fun hab => hc ?_
    refine ⟨h1.1, h1.2.1, (ad_F.1 h1.2.2.1).1, (ad_F.1 h1.2.2.2.1).1, fun p hp e => ?_⟩
    rcases ad_T.1 (h1.2.2.2.2 p hp e) with h3 | h3
    · exact h3
    · rcases ad_T.1 (h2.2.2.2.2 p hp e) with h4 | h4
      · exact h4
      · exact absurd (h3.trans h4.symm) hab
  o6 := fun {m a b c} hc h => by
    rw [decide_eq_true_eq] at *
    exact ok_sub hc (fun _ => tb_ad) (ad_F.1 h.2.2.1).1 (ad_F.1 h.2.2.2.1).1
def gone (n m x : Nat) : Prop := m.testBit x = true ∨ m.testBit (n + x) = true
instance {m x : Nat} : Decidable (gone n m x) := by unfold gone; infer_instance
structure Val (n z : Nat) (ks : List (Nat × Nat)) (m : Nat) : Prop where
  lt : ∀ c, m.testBit c = true → c < 2 * n
  v1 : ∀ x, x < n → ¬ (m.testBit x = true ∧ m.testBit (n + x) = true)
  v2 : ¬ gone n m z
  v3 : ∀ p ∈ nds n ks, m.testBit p.2 = true → m.testBit p.1 = true
theorem val_0 : Val n z ks 0 := ⟨fun c h => by simp at h, fun x _ h => by simp at h, fun h => by simp [gone] at h, fun p _ h => by simp at h⟩
theorem el_d {x : Nat} (h : x < n) : elc n x = x := if_pos h
theorem el_u {x : Nat} : elc n (n + x) = x := by unfold elc; rw [if_neg (by omega)]; omega
theorem op_d {x : Nat} (h : x < n) : opc' n x = n + x := if_pos h
theorem op_u {x : Nat} : opc' n (n + x) = x := by unfold opc'; rw [if_neg (by omega)]; omega
theorem cod {c : Nat} (h : c < 2 * n) : c < n ∨ ∃ x, x < n ∧ c = n + x := by
  rcases Nat.lt_or_ge c n with h1 | h1
  · exact .inl h1
  · exact .inr ⟨c - n, by omega, by omega⟩
theorem val_ad {m c : Nat} (hz : z < n) (h : Val n z ks m) (hc : okP n z ks m c) : Val n z ks (ad m c) := by
  refine ⟨fun b hb => ?_, fun x hx hb => ?_, fun hg => ?_, fun p hp hb => ?_⟩
  · rcases ad_T.1 hb with h1 | h1
    · exact h.lt b h1
    · rw [← h1]; exact hc.1
  · rcases ad_T.1 hb.1 with h1 | h1
    · rcases ad_T.1 hb.2 with h2 | h2
      · exact h.v1 x hx ⟨h1, h2⟩
      · have := hc.2.2.2.1; rw [h2, op_u, h1] at this; cases this
    · rcases ad_T.1 hb.2 with h2 | h2
      · have := hc.2.2.2.1; rw [h1, op_d hx, h2] at this; cases this
      · omega
  · rcases hg with h1 | h1
    · rcases ad_T.1 h1 with h2 | h2
      · exact h.v2 (.inl h2)
      · exact hc.2.1 (by rw [h2, el_d hz])
    · rcases ad_T.1 h1 with h2 | h2
      · exact h.v2 (.inr h2)
      · exact hc.2.1 (by rw [h2, el_u])
  · rcases ad_T.1 hb with h1 | h1
    · exact tb_ad (h.v3 p hp h1)
    · exact tb_ad (hc.2.2.2.2 p hp h1.symm)
theorem val_front {m : Nat} (h : Val n z ks m) {a b : Nat} (r : Pth ks a b) (hb : m.testBit b = true) : m.testBit a = true := by
  induction r with
  | one h1 => exact h.v3 _ (nds_mem.2 (.inl h1)) hb
  | more h1 _ ih => exact h.v3 (_, _) (nds_mem.2 (.inl h1)) (ih hb)
theorem val_back {m : Nat} (h : Val n z ks m) {a b : Nat} (r : Pth ks a b) (ha : m.testBit (n + a) = true) : m.testBit (n + b) = true := by
  induction r with
  | one h1 => exact h.v3 (n + _, n + _) (nds_mem.2 (.inr ⟨_, h1, rfl⟩)) ha
  | more h1 _ ih => exact ih (h.v3 (n + _, n + _) (nds_mem.2 (.inr ⟨_, h1, rfl⟩)) ha)
theorem ok_front {m x : Nat} (hv : VB n ks) (h : Val n z ks m) (hx : x < n) (hxz : x ≠ z) (hg : ¬ gone n m x) (hp : ∀ y, (y, x) ∈ ks → gone n m y) : okP n z ks m x := by
  have h1 : m.testBit x = false := by cases e : m.testBit x with
    | false => rfl
    | true => exact absurd (.inl e) hg
  have h2 : m.testBit (n + x) = false := by cases e : m.testBit (n + x) with
    | false => rfl
    | true => exact absurd (.inr e) hg
  refine ⟨by omega, by rw [el_d hx]; exact hxz, h1, by rw [op_d hx]; exact h2, fun p hp' e => ?_⟩
  rcases nds_mem.1 hp' with h3 | ⟨q, h3, rfl⟩
  · rcases hp p.1 (by rw [← e]; exact h3) with h4 | h4
    · exact h4
    · have := h.v3 (n + p.2, n + p.1) (nds_mem.2 (.inr ⟨p, h3, rfl⟩)) h4
      rw [e, h2] at this; cases this
  · simp only at e; omega
theorem ok_back {m x : Nat} (hv : VB n ks) (h : Val n z ks m) (hx : x < n) (hxz : x ≠ z) (hg : ¬ gone n m x) (hp : ∀ y, (x, y) ∈ ks → gone n m y) : okP n z ks m (n + x) := by
  have h1 : m.testBit x = false := by cases e : m.testBit x with
    | false => rfl
    | true => exact absurd (.inl e) hg
  have h2 : m.testBit (n + x) = false := by cases e : m.testBit (n + x) with
    | false => rfl
    | true => exact absurd (.inr e) hg
  refine ⟨by omega, by rw [el_u]; exact hxz, h2, by rw [op_u]; exact h1, fun p hp' e => ?_⟩
  rcases nds_mem.1 hp' with h3 | ⟨q, h3, rfl⟩
  · have := hv.2.2.2 p h3; omega
  · simp only at e ⊢
    have e2 : q.1 = x := by omega
    rcases hp q.2 (by rw [← e2]; exact h3) with h4 | h4
    · have := h.v3 q (nds_mem.2 (.inl h3)) h4
      rw [e2, h1] at this; cases this
    · exact h4
theorem ok_left {m c : Nat} (hc : okP n z ks m c) : ¬ gone n m (elc n c) ∧ elc n c < n := by
  rcases cod hc.1 with h | ⟨x, hx, rfl⟩
  · rw [el_d h]
    refine ⟨fun hg => ?_, h⟩
    rcases hg with h1 | h1
    · rw [hc.2.2.1] at h1; cases h1
    · have := hc.2.2.2.1; rw [op_d h, h1] at this; cases this
  · rw [el_u]
    refine ⟨fun hg => ?_, hx⟩
    rcases hg with h1 | h1
    · have := hc.2.2.2.1; rw [op_u, h1] at this; cases this
    · rw [hc.2.2.1] at h1; cases h1
theorem gone_ad {m c x : Nat} (hc : c < 2 * n) (hx : x < n) : gone n (ad m c) x ↔ gone n m x ∨ elc n c = x := by
  unfold gone
  rw [ad_T, ad_T]
  rcases cod hc with h | ⟨y, hy, rfl⟩
  · rw [el_d h]
    constructor
    · rintro ((h1 | h1) | (h1 | h1))
      · exact .inl (.inl h1)
      · exact .inr h1
      · exact .inl (.inr h1)
      · omega
    · rintro ((h1 | h1) | h1)
      · exact .inl (.inl h1)
      · exact .inr (.inl h1)
      · exact .inl (.inr h1)
  · rw [el_u]
    constructor
    · rintro ((h1 | h1) | (h1 | h1))
      · exact .inl (.inl h1)
      · omega
      · exact .inl (.inr h1)
      · exact .inr (by omega)
    · rintro ((h1 | h1) | h1)
      · exact .inl (.inl h1)
      · exact .inr (.inl h1)
      · exact .inr (.inr (by omega))
noncomputable def cntG (n m : Nat) (X : Nat → Prop) : Nat := by
  classical exact (List.range n).countP fun x => decide (X x ∧ ¬ gone n m x)
theorem cntG_ad {m c : Nat} {X : Nat → Prop} (hc : okP n z ks m c) : (X (elc n c) → cntG n m X = cntG n (ad m c) X + 1) ∧ (¬ X (elc n c) → cntG n m X = cntG n (ad m c) X) := by
  classical
  obtain ⟨hl, hlt⟩ := ok_left hc
  have e : ∀ y, y < n → (¬ gone n (ad m c) y ↔ ¬ gone n m y ∧ y ≠ elc n c) := fun y hy => by
    rw [gone_ad hc.1 hy]
    constructor
    · intro h; exact ⟨fun k => h (.inl k), fun k => h (.inr k.symm)⟩
    · rintro ⟨h1, h2⟩ (k | k)
      · exact h1 k
      · exact h2 k.symm
  unfold cntG
  constructor
  · intro hX
    have : ∀ l : List Nat, l.Nodup → (∀ y ∈ l, y < n) → elc n c ∈ l → l.countP (fun x => decide (X x ∧ ¬ gone n m x)) = l.countP (fun x => decide (X x ∧ ¬ gone n (ad m c) x)) + 1 := fun l hn hy hm => by
      have h1 := List.perm_cons_erase hm
      rw [h1.countP_eq, h1.countP_eq, List.countP_cons_of_pos (by simp [hX, hl]), List.countP_cons_of_neg (by
        rw [decide_eq_true_eq]; rintro ⟨_, h⟩; exact ((e _ hlt).1 h).2 rfl)]
      congr 1
      have hn2 := List.nodup_cons.1 (h1.nodup_iff.1 hn)
      refine List.countP_congr fun y hy2 => ?_
      have hyn := hy y (List.mem_of_mem_erase hy2)
      have hne : y ≠ elc n c := fun k => hn2.1 (k ▸ hy2)
      rw [decide_eq_true_eq, decide_eq_true_eq, e y hyn]
      constructor
      · rintro ⟨a, b⟩; exact ⟨a, b, hne⟩
      · rintro ⟨a, b, _⟩; exact ⟨a, b⟩
    exact this _ List.nodup_range (fun y hy => List.mem_range.1 hy) (List.mem_range.2 hlt)
  · intro hX
    refine List.countP_congr fun y hy => ?_
    have hyn := List.mem_range.1 hy
    rw [decide_eq_true_eq, decide_eq_true_eq, e y hyn]
    constructor
    · rintro ⟨a, b⟩; exact ⟨a, b, fun k => hX (k ▸ a)⟩
    · rintro ⟨a, b, _⟩; exact ⟨a, b⟩
theorem cntG_pos {m : Nat} {X : Nat → Prop} : 0 < cntG n m X ↔ ∃ x, x < n ∧ X x ∧ ¬ gone n m x := by
  classical
  unfold cntG
  rw [List.countP_pos_iff]
  constructor
  · rintro ⟨x, hx, h⟩; exact ⟨x, List.mem_range.1 hx, by simpa using h⟩
  · rintro ⟨x, hx, h⟩; exact ⟨x, List.mem_range.2 hx, by simpa using h⟩
theorem cntG_sum {m : Nat} {X Y Z : Nat → Prop} (h1 : ∀ x, X x → Z x) (h2 : ∀ x, Y x → Z x) (h3 : ∀ x, ¬ (X x ∧ Y x)) : cntG n m X + cntG n m Y ≤ cntG n m Z := by
  classical
  unfold cntG
  induction List.range n with
  | nil => simp
  | cons a l ih =>
    rw [List.countP_cons, List.countP_cons, List.countP_cons]
    have k : ∀ A B C : Bool, (A = true → C = true) → (B = true → C = true) → ¬ (A = true ∧ B = true) → (if A = true then 1 else 0) + (if B = true then 1 else 0) ≤ (if C = true then 1 else 0) := by intro A B C; cases A <;> cases B <;> cases C <;> simp
    have := k (decide (X a ∧ ¬ gone n m a)) (decide (Y a ∧ ¬ gone n m a)) (decide (Z a ∧ ¬ gone n m a)) (fun h => by rw [decide_eq_true_eq] at h ⊢; exact ⟨h1 a h.1, h.2⟩) (fun h => by rw [decide_eq_true_eq] at h ⊢; exact ⟨h2 a h.1, h.2⟩) (fun h => by rw [decide_eq_true_eq, decide_eq_true_eq] at h; exact h3 a ⟨h.1.1, h.2.1⟩)
    omega
theorem ex_min (hv : VB n ks) (ha : Acy n ks) (X : Nat → Prop) : ∀ (k a : Nat), a < n → X a → cntG n 0 (fun x => X x ∧ Pth ks x a) ≤ k → ∃ b, b < n ∧ X b ∧ ∀ x, X x → ¬ Pth ks x b := by
  intro k
  induction k with
  | zero =>
    intro a ha2 hX hc
    refine ⟨a, ha2, hX, fun x hx r => ?_⟩
    have : 0 < cntG n 0 (fun x => X x ∧ Pth ks x a) := cntG_pos.2 ⟨x, (pth_in hv r).1, ⟨hx, r⟩, fun h => by simp [gone] at h⟩
    omega
  | succ k ih =>
    intro a ha2 hX hc
    by_cases h : ∃ x, X x ∧ Pth ks x a
    · obtain ⟨x, hx, r⟩ := h
      refine ih x (pth_in hv r).1 hx ?_
      have h1 := cntG_sum (n := n) (m := 0) (X := fun y => X y ∧ Pth ks y x) (Y := fun y => y = x) (Z := fun y => X y ∧ Pth ks y a) (fun y h => ⟨h.1, h.2.trans r⟩) (fun y h => by rw [h]; exact ⟨hx, r⟩) (fun y h => by
        have h2 := h.1.2; rw [h.2] at h2; exact acy_pth hv ha h2)
      have h2 : 0 < cntG n 0 (fun y => y = x) := cntG_pos.2 ⟨x, (pth_in hv r).1, rfl, fun h => by simp [gone] at h⟩
      omega
    · exact ⟨a, ha2, hX, fun x hx r => h ⟨x, hx, r⟩⟩
theorem ex_max (hv : VB n ks) (ha : Acy n ks) (X : Nat → Prop) : ∀ (k a : Nat), a < n → X a → cntG n 0 (fun x => X x ∧ Pth ks a x) ≤ k → ∃ b, b < n ∧ X b ∧ ∀ x, X x → ¬ Pth ks b x := by
  intro k
  induction k with
  | zero =>
    intro a ha2 hX hc
    refine ⟨a, ha2, hX, fun x hx r => ?_⟩
    have : 0 < cntG n 0 (fun x => X x ∧ Pth ks a x) := cntG_pos.2 ⟨x, (pth_in hv r).2, ⟨hx, r⟩, fun h => by simp [gone] at h⟩
    omega
  | succ k ih =>
    intro a ha2 hX hc
    by_cases h : ∃ x, X x ∧ Pth ks a x
    · obtain ⟨x, hx, r⟩ := h
      refine ih x (pth_in hv r).2 hx ?_
      have h1 := cntG_sum (n := n) (m := 0) (X := fun y => X y ∧ Pth ks x y) (Y := fun y => y = x) (Z := fun y => X y ∧ Pth ks a y) (fun y h => ⟨h.1, r.trans h.2⟩) (fun y h => by rw [h]; exact ⟨hx, r⟩) (fun y h => by
        have h2 := h.1.2; rw [h.2] at h2; exact acy_pth hv ha h2)
      have h2 : 0 < cntG n 0 (fun y => y = x) := cntG_pos.2 ⟨x, (pth_in hv r).2, rfl, fun h => by simp [gone] at h⟩
      omega
    · exact ⟨a, ha2, hX, fun x hx r => h ⟨x, hx, r⟩⟩
theorem min_of (hv : VB n ks) (ha : Acy n ks) (X : Nat → Prop) (h : ∃ a, a < n ∧ X a) : ∃ b, b < n ∧ X b ∧ ∀ x, X x → ¬ Pth ks x b := by
  obtain ⟨a, h1, h2⟩ := h; exact ex_min hv ha X _ a h1 h2 (Nat.le_refl _)
theorem max_of (hv : VB n ks) (ha : Acy n ks) (X : Nat → Prop) (h : ∃ a, a < n ∧ X a) : ∃ b, b < n ∧ X b ∧ ∀ x, X x → ¬ Pth ks b x := by
  obtain ⟨a, h1, h2⟩ := h; exact ex_max hv ha X _ a h1 h2 (Nat.le_refl _)
end
end Go.Proofs.Ythmibifghihdaaa
end

section
namespace Go.Proofs.Ythmibifghihdaaa
set_option maxRecDepth 20000
theorem rlt {a b c : Rat} (h : a < b) (k : b ≤ c) : a < c := by grind
theorem cntG_le' {n m : Nat} {X Z : Nat → Prop} (h1 : ∀ x, x < n → ¬ gone n m x → X x → Z x) : cntG n m X ≤ cntG n m Z := by
  classical
  unfold cntG
  refine List.countP_mono_left fun x hx h2 => ?_
  rw [decide_eq_true_eq] at h2 ⊢
  exact ⟨h1 x (List.mem_range.1 hx) h2.2 h2.1, h2.2⟩
theorem rs_pos {n : Nat} {f : Nat → Rat} (h : 0 < rs n f) : ∃ x, x < n ∧ 0 < f x := by
  refine Classical.byContradiction fun hc => ?_
  have : rs n f ≤ rs n (fun _ => 0) := rs_le fun x hx => by
    refine Classical.byContradiction fun h2 => hc ⟨x, hx, by grind⟩
  rw [rs_zero (f := fun _ => (0 : Rat)) fun _ _ => rfl] at this; grind
section
variable {n z : Nat} {ks : List (Nat × Nat)}
noncomputable abbrev alp (n z : Nat) (ks : List (Nat × Nat)) (m : Nat) : Nat := cntG n m (fun x => Pth ks x z)
noncomputable abbrev bet (n z : Nat) (ks : List (Nat × Nat)) (m : Nat) : Nat := cntG n m (fun x => Pth ks z x)
noncomputable abbrev rem (n z m : Nat) : Nat := cntG n m (fun x => x ≠ z)
theorem al_be (hv : VB n ks) (ha : Acy n ks) {m : Nat} : alp n z ks m + bet n z ks m ≤ rem n z m :=
  cntG_sum (fun x h e => by rw [e] at h; exact acy_pth hv ha h) (fun x h e => by rw [e] at h; exact acy_pth hv ha h) (fun x h => acy_pth hv ha (h.1.trans h.2))
theorem d_not (hz : z < n) {m c : Nat} (h : Val n z ks m) (hc : okP n z ks m c) (hd : c < n) : ¬ Pth ks z c := fun r => (val_ad hz h hc).v2 (.inl (val_front (val_ad hz h hc) r ad_self))
theorem u_not (hz : z < n) {m x : Nat} (h : Val n z ks m) (hc : okP n z ks m (n + x)) : ¬ Pth ks x z := fun r => (val_ad hz h hc).v2 (.inr (val_back (val_ad hz h hc) r ad_self))
theorem rem_ad {m c : Nat} (hc : okP n z ks m c) : rem n z m = rem n z (ad m c) + 1 := (cntG_ad (X := fun x => x ≠ z) hc).1 hc.2.1
theorem alp_u (hz : z < n) {m x : Nat} (h : Val n z ks m) (hc : okP n z ks m (n + x)) : alp n z ks m = alp n z ks (ad m (n + x)) := (cntG_ad (X := fun x => Pth ks x z) hc).2 (by rw [el_u]; exact u_not hz h hc)
theorem bet_d (hz : z < n) {m c : Nat} (h : Val n z ks m) (hc : okP n z ks m c) (hd : c < n) : bet n z ks m = bet n z ks (ad m c) := (cntG_ad (X := fun x => Pth ks z x) hc).2 (by rw [el_d hd]; exact d_not hz h hc hd)
theorem alp_le {m c : Nat} (hc : okP n z ks m c) : alp n z ks m ≤ alp n z ks (ad m c) + 1 ∧ alp n z ks (ad m c) ≤ alp n z ks m := by
  have := cntG_ad (X := fun x => Pth ks x z) hc
  by_cases h : Pth ks (elc n c) z
  · have := this.1 h; unfold alp; omega
  · have := this.2 h; unfold alp; omega
theorem bet_le {m c : Nat} (hc : okP n z ks m c) : bet n z ks m ≤ bet n z ks (ad m c) + 1 ∧ bet n z ks (ad m c) ≤ bet n z ks m := by
  have := cntG_ad (X := fun x => Pth ks z x) hc
  by_cases h : Pth ks z (elc n c)
  · have := this.1 h; unfold bet; omega
  · have := this.2 h; unfold bet; omega
theorem left_of {m : Nat} {X : Nat → Prop} (h : cntG n m X = 0) {x : Nat} (hx : x < n) (hX : X x) : gone n m x := by
  refine Classical.byContradiction fun hg => ?_
  have := cntG_pos.2 ⟨x, hx, hX, hg⟩; omega
theorem take_bet (hv : VB n ks) (ha : Acy n ks) {m : Nat} (h : Val n z ks m) (hb : 0 < bet n z ks m) : ∃ x, x < n ∧ Pth ks z x ∧ okP n z ks m (n + x) := by
  obtain ⟨x, hx, r, hg⟩ := cntG_pos.1 hb
  obtain ⟨b, hb1, ⟨r2, hg2⟩, hmax⟩ := max_of hv ha (fun x => Pth ks z x ∧ ¬ gone n m x) ⟨x, hx, r, hg⟩
  refine ⟨b, hb1, r2, ok_back hv h hb1 (fun e => by rw [e] at r2; exact acy_pth hv ha r2) hg2 fun y hy => ?_⟩
  exact Classical.byContradiction fun hc => hmax y ⟨r2.trans (.one hy), hc⟩ (.one hy)
theorem take_alp (hv : VB n ks) (ha : Acy n ks) {m : Nat} (h : Val n z ks m) (hb : 0 < alp n z ks m) : ∃ x, x < n ∧ Pth ks x z ∧ okP n z ks m x := by
  obtain ⟨x, hx, r, hg⟩ := cntG_pos.1 hb
  obtain ⟨b, hb1, ⟨r2, hg2⟩, hmin⟩ := min_of hv ha (fun x => Pth ks x z ∧ ¬ gone n m x) ⟨x, hx, r, hg⟩
  refine ⟨b, hb1, r2, ok_front hv h hb1 (fun e => by rw [e] at r2; exact acy_pth hv ha r2) hg2 fun y hy => ?_⟩
  exact Classical.byContradiction fun hc => hmin y ⟨Pth.trans (.one hy) r2, hc⟩ (.one hy)
theorem pos_B (hv : VB n ks) (ha : Acy n ks) (hz : z < n) : ∀ (j m : Nat), Val n z ks m → alp n z ks m = 0 → bet n z ks m ≤ j → rem n z m = j → 0 < (sysR n z ks hv).GB j m
  | 0, m, h, _, _, hr => by
    have : (sysR n z ks hv).fin m = true := decide_eq_true fun x hx => by
      by_cases e : x = z
      · exact .inl e
      · exact .inr (left_of hr (List.mem_range.1 hx) e)
    unfold Sys.GB; rw [if_pos this]; decide
  | j + 1, m, h, h0, hb, hr => by
    have hex : ∃ x, x < n ∧ okP n z ks m (n + x) ∧ bet n z ks (ad m (n + x)) ≤ j := by
      by_cases hb0 : 0 < bet n z ks m
      · obtain ⟨x, hx, r, hok⟩ := take_bet hv ha h hb0
        have := (cntG_ad (X := fun x => Pth ks z x) hok).1 (by rw [el_u]; exact r)
        exact ⟨x, hx, hok, by unfold bet at *; omega⟩
      · obtain ⟨x, hx, hne, hg⟩ := cntG_pos.1 (show 0 < rem n z m by omega)
        obtain ⟨b, hb1, ⟨hne2, hg2⟩, hmax⟩ := max_of hv ha (fun x => x ≠ z ∧ ¬ gone n m x) ⟨x, hx, hne, hg⟩
        have hok := ok_back hv h hb1 hne2 hg2 fun y hy => by
          refine Classical.byContradiction fun hc => ?_
          by_cases e : y = z
          · rw [e] at hy; exact hg2 (left_of h0 hb1 (.one hy))
          · exact hmax y ⟨e, hc⟩ (.one hy)
        exact ⟨b, hb1, hok, by have := (bet_le hok).2; omega⟩
    obtain ⟨x, hx, hok, hb2⟩ := hex
    have ih := pos_B hv ha hz j (ad m (n + x)) (val_ad hz h hok) (by rw [← alp_u hz h hok]; exact h0) hb2 (by have := rem_ad hok; omega)
    have := rs_le_one (n := 2 * n) (a := n + x) (f := fun c => if ((sysR n z ks hv).ok m c && !(sysR n z ks hv).tp c) = true then (sysR n z ks hv).GB j (ad m c) else 0) (by omega) fun c _ => by
      show (0 : Rat) ≤ if _ then _ else _
      split; exact Sys.GB_nn _ _ _; exact Rat.le_refl
    have e : ((sysR n z ks hv).ok m (n + x) && !(sysR n z ks hv).tp (n + x)) = true := by
      show (decide (okP n z ks m (n + x)) && !decide (n + x < n)) = true
      rw [decide_eq_true hok, decide_eq_false (by omega)]; rfl
    simp only [if_pos e] at this
    exact rlt ih this
theorem pos_G (hv : VB n ks) (ha : Acy n ks) (hz : z < n) : ∀ (i j m : Nat), Val n z ks m → alp n z ks m ≤ i → bet n z ks m ≤ j → rem n z m = i + j → 0 < (sysR n z ks hv).GG i j m
  | 0, j, m, h, h0, hb, hr => pos_B hv ha hz j m h (by omega) hb (by omega)
  | i + 1, j, m, h, h0, hb, hr => by
    have hex : ∃ x, x < n ∧ okP n z ks m x ∧ alp n z ks (ad m x) ≤ i := by
      by_cases ha0 : 0 < alp n z ks m
      · obtain ⟨x, hx, r, hok⟩ := take_alp hv ha h ha0
        have := (cntG_ad (X := fun x => Pth ks x z) hok).1 (by rw [el_d hx]; exact r)
        exact ⟨x, hx, hok, by unfold alp at *; omega⟩
      · have hsome : ∃ x, x < n ∧ x ≠ z ∧ ¬ gone n m x ∧ ¬ Pth ks z x := by
          refine Classical.byContradiction fun hc => ?_
          have : rem n z m ≤ bet n z ks m := cntG_le' fun x hx h3 h2 => Classical.byContradiction fun h4 => hc ⟨x, hx, h2, h3, h4⟩
          omega
        obtain ⟨x, hx, hne, hg, hnr⟩ := hsome
        obtain ⟨b, hb1, ⟨hne2, hg2, hnr2⟩, hmin⟩ := min_of hv ha (fun x => x ≠ z ∧ ¬ gone n m x ∧ ¬ Pth ks z x) ⟨x, hx, hne, hg, hnr⟩
        have hok := ok_front hv h hb1 hne2 hg2 fun y hy => by
          refine Classical.byContradiction fun hc => ?_
          by_cases e : y = z
          · rw [e] at hy; exact hnr2 (.one hy)
          · exact hmin y ⟨e, hc, fun r => hnr2 (r.trans (.one hy))⟩ (.one hy)
        exact ⟨b, hb1, hok, by have := (alp_le hok).2; omega⟩
    obtain ⟨x, hx, hok, hb2⟩ := hex
    have ih := pos_G hv ha hz i j (ad m x) (val_ad hz h hok) hb2 (by rw [← bet_d hz h hok hx]; exact hb) (by have := rem_ad hok; omega)
    have := rs_le_one (n := 2 * n) (a := x) (f := fun c => if ((sysR n z ks hv).ok m c && (sysR n z ks hv).tp c) = true then (sysR n z ks hv).GG i j (ad m c) else 0) (by omega) fun c _ => by
      show (0 : Rat) ≤ if _ then _ else _
      split; exact Sys.GG_nn _ _ _ _; exact Rat.le_refl
    have e : ((sysR n z ks hv).ok m x && (sysR n z ks hv).tp x) = true := by
      show (decide (okP n z ks m x) && decide (x < n)) = true
      rw [decide_eq_true hok, decide_eq_true hx]; rfl
    simp only [if_pos e] at this
    exact rlt ih this
theorem neg_B (hv : VB n ks) (ha : Acy n ks) (hz : z < n) : ∀ (j m : Nat), Val n z ks m → 0 < (sysR n z ks hv).GB j m → alp n z ks m = 0 ∧ bet n z ks m ≤ j
  | 0, m, h, hp => by
    unfold Sys.GB at hp
    split at hp
    · rename_i hf
      have hf : ∀ x ∈ List.range n, x = z ∨ m.testBit x = true ∨ m.testBit (n + x) = true := of_decide_eq_true hf
      have k : ∀ X : Nat → Prop, (∀ x, X x → x ≠ z) → cntG n m X = 0 := fun X hX => by
        refine Classical.byContradiction fun hc => ?_
        obtain ⟨x, hx, h1, h2⟩ := cntG_pos.1 (show 0 < cntG n m X by omega)
        rcases hf x (List.mem_range.2 hx) with h3 | h3
        · exact hX x h1 h3
        · exact h2 h3
      have k1 := k (fun x => Pth ks x z) fun x r e => by rw [e] at r; exact acy_pth hv ha r
      have k2 := k (fun x => Pth ks z x) fun x r e => by rw [e] at r; exact acy_pth hv ha r
      exact ⟨k1, by unfold bet; omega⟩
    · exact absurd hp (by decide)
  | j + 1, m, h, hp => by
    obtain ⟨c, hc, hp2⟩ := rs_pos (show 0 < rs (2 * n) _ from hp)
    split at hp2
    · rename_i hcond
      have hcond : (decide (okP n z ks m c) && !decide (c < n)) = true := hcond
      rw [Bool.and_eq_true, decide_eq_true_eq, Bool.not_eq_true', decide_eq_false_iff_not] at hcond
      obtain ⟨x, hx, rfl⟩ := (cod hc).resolve_left hcond.2
      have ih := neg_B hv ha hz j _ (val_ad hz h hcond.1) hp2
      have h1 := alp_u hz h hcond.1
      have h2 := (bet_le hcond.1).1
      exact ⟨by omega, by omega⟩
    · exact absurd hp2 (by decide)
theorem neg_G (hv : VB n ks) (ha : Acy n ks) (hz : z < n) : ∀ (i j m : Nat), Val n z ks m → 0 < (sysR n z ks hv).GG i j m → alp n z ks m ≤ i ∧ bet n z ks m ≤ j
  | 0, j, m, h, hp => by have := neg_B hv ha hz j m h hp; omega
  | i + 1, j, m, h, hp => by
    obtain ⟨c, hc, hp2⟩ := rs_pos (show 0 < rs (2 * n) _ from hp)
    split at hp2
    · rename_i hcond
      have hcond : (decide (okP n z ks m c) && decide (c < n)) = true := hcond
      rw [Bool.and_eq_true, decide_eq_true_eq, decide_eq_true_eq] at hcond
      have ih := neg_G hv ha hz i j _ (val_ad hz h hcond.1) hp2
      have h1 := (alp_le hcond.1).1
      have h2 := bet_d hz h hcond.1 hcond.2
      exact ⟨by omega, by omega⟩
    · exact absurd hp2 (by decide)
theorem gt_pos (hv : VB n ks) (ha : Acy n ks) (hz : z < n) {t : Rat} (h0 : 0 < t) (h1 : t < 1) {i j m : Nat} (h : Val n z ks m) (hr : rem n z m = i + j + 1) (h2 : alp n z ks m ≤ i + 1) (h3 : bet n z ks m ≤ j + 1) : 0 < (sysR n z ks hv).gt' t i j m := by
  have hs := al_be (z := z) (m := m) hv ha
  unfold Sys.gt'
  have n1 := (sysR n z ks hv).GG_nn i (j + 1) m
  have n2 := (sysR n z ks hv).GG_nn (i + 1) j m
  by_cases h4 : alp n z ks m ≤ i
  · have p := pos_G hv ha hz i (j + 1) m h h4 h3 (by omega)
    have := Rat.mul_pos h0 p
    have := Rat.mul_nonneg (show 0 ≤ 1 - t by grind) n2
    grind
  · have p := pos_G hv ha hz (i + 1) j m h h2 (by omega) (by omega)
    have := Rat.mul_pos (show 0 < 1 - t by grind) p
    have := Rat.mul_nonneg (show 0 ≤ t by grind) n1
    grind
theorem gt_neg (hv : VB n ks) (ha : Acy n ks) (hz : z < n) {t : Rat} {i j m : Nat} (h : Val n z ks m) (hp : (sysR n z ks hv).gt' t i j m ≠ 0) : alp n z ks m ≤ i + 1 ∧ bet n z ks m ≤ j + 1 := by
  have n1 := (sysR n z ks hv).GG_nn i (j + 1) m
  have n2 := (sysR n z ks hv).GG_nn (i + 1) j m
  by_cases e : (sysR n z ks hv).GG i (j + 1) m = 0
  · by_cases e2 : (sysR n z ks hv).GG (i + 1) j m = 0
    · exfalso; apply hp; unfold Sys.gt'; rw [e, e2]; grind
    · have := neg_G hv ha hz (i + 1) j m h (by grind); omega
  · have := neg_G hv ha hz i (j + 1) m h (by grind); omega
theorem ok_then {m x y : Nat} (hx : okP n z ks m x) (hy : okP n z ks m y) (hne : elc n x ≠ elc n y) : okP n z ks (ad m x) y := by
  refine ok_sub hy (fun _ => tb_ad) (ad_F.2 ⟨hy.2.2.1, fun e => hne (by rw [e])⟩) (ad_F.2 ⟨hy.2.2.2.1, fun e => hne ?_⟩)
  rw [e]
  rcases cod hy.1 with h | ⟨w, hw, rfl⟩
  · rw [op_d h, el_u, el_d h]
  · rw [op_u, el_u, el_d hw]
theorem al_inf {m c : Nat} (hc : okP n z ks m c) (h : Pth ks (elc n c) z) : alp n z ks m = alp n z ks (ad m c) + 1 := (cntG_ad (X := fun x => Pth ks x z) hc).1 h
theorem be_inf {m c : Nat} (hc : okP n z ks m c) (h : Pth ks z (elc n c)) : bet n z ks m = bet n z ks (ad m c) + 1 := (cntG_ad (X := fun x => Pth ks z x) hc).1 h
theorem edge (hv : VB n ks) (ha : Acy n ks) (hz : z < n) {t : Rat} (h0 : 0 < t) (h1 : t < 1) {i j m x y : Nat} (h : Val n z ks m) (hr : rem n z m = i + j + 3) (hx : okP n z ks m x) (hy : okP n z ks m y) (hne : elc n x ≠ elc n y) (h2 : alp n z ks (ad (ad m x) y) ≤ i + 1) (h3 : bet n z ks (ad (ad m x) y) ≤ j + 1) : (sysR n z ks hv).Q ((sysR n z ks hv).gt' t i j) m x y ≠ 0 := by
  have hxy := ok_then hx hy hne
  have e : x ≠ y := fun e => hne (by rw [e])
  rw [Sys.Q_ne _ hy.1 e, if_pos (show (sysR n z ks hv).ok m y = true from decide_eq_true hy)]
  unfold Sys.kw
  have e2 : ((sysR n z ks hv).ok m x && (sysR n z ks hv).ok (ad m x) y) = true := by
    show (decide (okP n z ks m x) && decide (okP n z ks (ad m x) y)) = true
    rw [decide_eq_true hx, decide_eq_true hxy]; rfl
  rw [if_pos e2]
  have := gt_pos hv ha hz h0 h1 (val_ad hz (val_ad hz h hx) hxy) (by have := rem_ad hx; have := rem_ad hxy; omega) h2 h3
  grind
theorem supp (hv : VB n ks) (ha : Acy n ks) (hz : z < n) {t : Rat} {i j m x : Nat} (h : Val n z ks m) (hx : x < 2 * n) (hs : mv (2 * n) ((sysR n z ks hv).Q ((sysR n z ks hv).gt' t i j) m) ((sysR n z ks hv).hh t) x ≠ 0) : okP n z ks m x ∧ ∃ b, okP n z ks (ad m x) b ∧ alp n z ks (ad (ad m x) b) ≤ i + 1 ∧ bet n z ks (ad (ad m x) b) ≤ j + 1 := by
  have hs2 : ∃ b, (sysR n z ks hv).kw ((sysR n z ks hv).gt' t i j) m x b ≠ 0 := by
    refine Classical.byContradiction fun hc => hs ?_
    have e := Sys.mv_Q (sysR n z ks hv) (g := (sysR n z ks hv).gt' t i j) (m := m) hx ((sysR n z ks hv).hh t)
    refine e.trans (rs_zero fun b _ => ?_)
    have : (sysR n z ks hv).kw ((sysR n z ks hv).gt' t i j) m x b = 0 := Classical.byContradiction fun h2 => hc ⟨b, h2⟩
    rw [this]; grind
  obtain ⟨b, hb⟩ := hs2
  unfold Sys.kw at hb
  split at hb
  · rename_i hcond
    have hcond : (decide (okP n z ks m x) && decide (okP n z ks (ad m x) b)) = true := hcond
    rw [Bool.and_eq_true, decide_eq_true_eq, decide_eq_true_eq] at hcond
    exact ⟨hcond.1, b, hcond.2, gt_neg hv ha hz (val_ad hz (val_ad hz h hcond.1) hcond.2) hb⟩
  · exact absurd rfl hb
theorem third (hv : VB n ks) (ha : Acy n ks) {m e : Nat} (h : Val n z ks m) (he : e < n) (hd : okP n z ks m e) (hu : okP n z ks m (n + e)) (hr : 2 ≤ rem n z m) : ∃ c, okP n z ks m c ∧ elc n c ≠ e := by
  have heg := (ok_left hd).1
  rw [el_d he] at heg
  have hsome : ∃ x, x < n ∧ x ≠ z ∧ x ≠ e ∧ ¬ gone n m x := by
    refine Classical.byContradiction fun hc => ?_
    have h1 := rem_ad hd
    obtain ⟨x, hx, hxz, hg⟩ := cntG_pos.1 (show 0 < rem n z (ad m e) by omega)
    rw [gone_ad hd.1 hx, el_d he] at hg
    exact hc ⟨x, hx, hxz, fun k => hg (.inr k.symm), fun k => hg (.inl k)⟩
  obtain ⟨x, hx, hxz, hxe, hg⟩ := hsome
  by_cases hup : ∃ x, x < n ∧ x ≠ z ∧ x ≠ e ∧ ¬ gone n m x ∧ ¬ Pth ks z x
  · obtain ⟨x, hx, hh⟩ := hup
    obtain ⟨b, hb1, ⟨b1, b2, b3, b4⟩, hmin⟩ := min_of hv ha (fun x => x ≠ z ∧ x ≠ e ∧ ¬ gone n m x ∧ ¬ Pth ks z x) ⟨x, hx, hh⟩
    refine ⟨b, ok_front hv h hb1 b1 b3 fun y hy => ?_, by rw [el_d hb1]; exact b2⟩
    refine Classical.byContradiction fun hc => ?_
    by_cases e1 : y = z
    · rw [e1] at hy; exact b4 (.one hy)
    · by_cases e2 : y = e
      · rw [e2] at hy
        have := hu.2.2.2.2 (n + b, n + e) (nds_mem.2 (.inr ⟨_, hy, rfl⟩)) rfl
        exact b3 (.inr this)
      · exact hmin y ⟨e1, e2, hc, fun r => b4 (r.trans (.one hy))⟩ (.one hy)
  · obtain ⟨b, hb1, ⟨b1, b2, b3⟩, hmax⟩ := max_of hv ha (fun x => x ≠ z ∧ x ≠ e ∧ ¬ gone n m x) ⟨x, hx, hxz, hxe, hg⟩
    have hzb : Pth ks z b := Classical.byContradiction fun hc => hup ⟨b, hb1, b1, b2, b3, hc⟩
    refine ⟨n + b, ok_back hv h hb1 b1 b3 fun y hy => ?_, by rw [el_u]; exact b2⟩
    refine Classical.byContradiction fun hc => ?_
    by_cases e1 : y = z
    · rw [e1] at hy; exact acy_pth hv ha (hzb.trans (.one hy))
    · by_cases e2 : y = e
      · rw [e2] at hy
        have := hd.2.2.2.2 (b, e) (nds_mem.2 (.inl hy)) rfl
        exact b3 (.inl this)
      · exact hmax y ⟨e1, e2, hc⟩ (.one hy)
theorem conn (hv : VB n ks) (ha : Acy n ks) (hz : z < n) {t : Rat} (h0 : 0 < t) (h1 : t < 1) {i j m : Nat} (h : Val n z ks m) (hr : rem n z m = i + j + 3) (u : Nat → Rat)
    (hu : ∀ x y, x < 2 * n → y < 2 * n → (sysR n z ks hv).Q ((sysR n z ks hv).gt' t i j) m x y ≠ 0 → u x * (sysR n z ks hv).hh t y = u y * (sysR n z ks hv).hh t x) :
    ∃ c, ∀ x, x < 2 * n → mv (2 * n) ((sysR n z ks hv).Q ((sysR n z ks hv).gt' t i j) m) ((sysR n z ks hv).hh t) x ≠ 0 → u x = c * (sysR n z ks hv).hh t x := by
  have hs := al_be (z := z) (m := m) hv ha
  have hp := fun c => (sysR n z ks hv).hh_pos h0 h1 c
  have hub : ∀ a, okP n z ks m a → (∀ x, x < 2 * n → mv (2 * n) ((sysR n z ks hv).Q ((sysR n z ks hv).gt' t i j) m) ((sysR n z ks hv).hh t) x ≠ 0 → x = a ∨ u a * (sysR n z ks hv).hh t x = u x * (sysR n z ks hv).hh t a) → ∃ c, ∀ x, x < 2 * n → mv (2 * n) ((sysR n z ks hv).Q ((sysR n z ks hv).gt' t i j) m) ((sysR n z ks hv).hh t) x ≠ 0 → u x = c * (sysR n z ks hv).hh t x := fun a hok hall => by
    refine ⟨u a / (sysR n z ks hv).hh t a, fun x hx hx2 => ?_⟩
    have p1 := hp a
    rcases hall x hx hx2 with e | e
    · rw [e]; grind
    · grind
  by_cases c1 : i + 2 ≤ alp n z ks m
  · obtain ⟨a, han, r, hok⟩ := take_alp hv ha h (by omega)
    refine hub a hok fun x hx hx2 => ?_
    by_cases e : x = a
    · exact .inl e
    · right
      obtain ⟨hxo, b, hb, hb1, _⟩ := supp hv ha hz h hx hx2
      have hne : elc n a ≠ elc n x := fun k => by
        rw [el_d han] at k
        rcases cod hx with h2 | ⟨w, hw, rfl⟩
        · rw [el_d h2] at k; exact e k.symm
        · rw [el_u] at k; rw [← k] at hxo; exact u_not hz h hxo r
      have hax := ok_then hok hxo hne
      have hxa := ok_then hxo hok (Ne.symm hne)
      refine hu a x hok.1 hx (edge hv ha hz h0 h1 h hr hok hxo hne ?_ ?_)
      · have q1 := al_inf hok (by rw [el_d han]; exact r)
        have q2 := al_inf hxa (by rw [el_d han]; exact r)
        have q3 := (alp_le hb).1
        rw [ad_comm]; omega
      · have q1 := (bet_le hok).2
        have q2 := (bet_le hax).2
        omega
  · by_cases c2 : j + 2 ≤ bet n z ks m
    · obtain ⟨w, hw, r, hok⟩ := take_bet hv ha h (by omega)
      refine hub (n + w) hok fun x hx hx2 => ?_
      by_cases e : x = n + w
      · exact .inl e
      · right
        obtain ⟨hxo, b, hb, _, hb1⟩ := supp hv ha hz h hx hx2
        have hne : elc n (n + w) ≠ elc n x := fun k => by
          rw [el_u] at k
          rcases cod hx with h2 | ⟨y, hy, rfl⟩
          · rw [el_d h2] at k; rw [← k] at hxo; exact d_not hz h hxo hw r
          · rw [el_u] at k; exact e (by rw [k])
        have hax := ok_then hok hxo hne
        have hxa := ok_then hxo hok (Ne.symm hne)
        refine hu (n + w) x hok.1 hx (edge hv ha hz h0 h1 h hr hok hxo hne ?_ ?_)
        · have q1 := (alp_le hok).2
          have q2 := (alp_le hax).2
          omega
        · have q1 := be_inf hok (by rw [el_u]; exact r)
          have q2 := be_inf hxa (by rw [el_u]; exact r)
          have q3 := (bet_le hb).1
          rw [ad_comm]; omega
    · have all : ∀ x y, okP n z ks m x → okP n z ks m y → elc n x ≠ elc n y → u x * (sysR n z ks hv).hh t y = u y * (sysR n z ks hv).hh t x := fun x y hx hy hne => by
        have hxy := ok_then hx hy hne
        refine hu x y hx.1 hy.1 (edge hv ha hz h0 h1 h hr hx hy hne ?_ ?_)
        · have := (alp_le hx).2; have := (alp_le hxy).2; omega
        · have := (bet_le hx).2; have := (bet_le hxy).2; omega
      by_cases hex : ∃ a, okP n z ks m a
      · obtain ⟨a, hok⟩ := hex
        refine hub a hok fun x hx hx2 => ?_
        obtain ⟨hxo, _⟩ := supp hv ha hz h hx hx2
        by_cases e : x = a
        · exact .inl e
        · right
          by_cases hne : elc n a = elc n x
          · have hthird : ∃ c, okP n z ks m c ∧ elc n c ≠ elc n a := by
              rcases cod hok.1 with h2 | ⟨w, hw, rfl⟩
              · rcases cod hx with h3 | ⟨y, hy, rfl⟩
                · rw [el_d h2, el_d h3] at hne; exact absurd hne.symm e
                · rw [el_d h2, el_u] at hne; rw [← hne] at hxo; rw [el_d h2]
                  exact third hv ha h h2 hok hxo (by omega)
              · rcases cod hx with h3 | ⟨y, hy, rfl⟩
                · rw [el_u, el_d h3] at hne; rw [← hne] at hxo; rw [el_u]
                  exact third hv ha h hw hxo hok (by omega)
                · rw [el_u, el_u] at hne; exact absurd (by rw [hne]) e
            obtain ⟨c, hc, hce⟩ := hthird
            have e1 := all a c hok hc (Ne.symm hce)
            have e2 := all x c hxo hc (fun k => hce (by rw [hne]; exact k.symm))
            have p1 := hp c
            have : (sysR n z ks hv).hh t c * (u a * (sysR n z ks hv).hh t x - u x * (sysR n z ks hv).hh t a) = 0 := by grind
            rcases Rat.mul_eq_zero.1 this with q | q
            · grind
            · grind
          · exact all a x hok hxo hne
      · exact ⟨0, fun x hx hx2 => absurd ⟨x, (supp hv ha hz h hx hx2).1⟩ hex⟩
end
end Go.Proofs.Ythmibifghihdaaa
end

section
namespace Go.Proofs.Ythmibifghihdaaa
set_option maxRecDepth 20000
def bz (b : Bool) (x : Rat) : Rat := if b = true then x else 0
def Bq (a1 a2 a3 a4 c1 c4 d1 d4 : Bool) (vp vP vq vQ wp wP wq wQ : Rat) : Rat :=
  bz a1 (vp * (bz c1 (if a3 = true then wq else wp) + bz a4 wQ)) + bz a2 (vP * (bz a3 wq + bz c4 (if a4 = true then wQ else wP))) +
  (bz a3 (vq * (bz d1 (if a1 = true then wp else wq) + bz a2 wP)) + bz a4 (vQ * (bz a1 wp + bz d4 (if a2 = true then wP else wQ))))
def chq (a1 a2 a3 a4 c1 c4 d1 d4 : Bool) : Bool := (!(a1 && a3) || (c1 && d1)) && (!(a2 && a4) || (c4 && d4)) && !(a1 && c1 && !a3 && a2) && !(a2 && c4 && !a4 && a1) && !(a3 && d1 && !a1 && a4) && !(a4 && d4 && !a2 && a3)
theorem base_q (a1 a2 a3 a4 c1 c4 d1 d4 : Bool) (hk : chq a1 a2 a3 a4 c1 c4 d1 d4 = true) (vp vP vq vQ hp hP hq hQ : Rat) :
  Bq a1 a2 a3 a4 c1 c4 d1 d4 vp vP vq vQ vp vP vq vQ * Bq a1 a2 a3 a4 c1 c4 d1 d4 hp hP hq hQ hp hP hq hQ ≤ Bq a1 a2 a3 a4 c1 c4 d1 d4 vp vP vq vQ hp hP hq hQ * Bq a1 a2 a3 a4 c1 c4 d1 d4 vp vP vq vQ hp hP hq hQ := by
  have s1 := sq_nn ((bz a1 vp + bz a2 vP) * (bz a3 hq + bz a4 hQ) - (bz a3 vq + bz a4 vQ) * (bz a1 hp + bz a2 hP))
  have s2 := sq_nn (vp * hQ - vQ * hp)
  have s3 := sq_nn (vP * hq - vq * hP)
  cases a1 <;> cases a2 <;> cases a3 <;> cases a4 <;> cases c1 <;> cases c4 <;> cases d1 <;> cases d4 <;> first | (exact absurd hk (by decide)) | (simp only [Bq, bz, if_true, if_false, Bool.false_eq_true] at s1 ⊢; grind)
theorem rs_rem {D a : Nat} (ha : a < D) (F : Nat → Rat) : rs D F = F a + rs D (fun x => if x = a then 0 else F x) := by
  rw [rs_congr (f := F) (g := fun x => (if x = a then F x else 0) + (if x = a then 0 else F x)) fun x _ => by split <;> grind, rs_add,
    rs_one (f := fun x => if x = a then F x else 0) ha fun x _ h => if_neg h, if_pos rfl]
theorem rs_two {D a b : Nat} (ha : a < D) (hb : b < D) (hab : a ≠ b) {F : Nat → Rat} (h : ∀ x, x < D → x ≠ a → x ≠ b → F x = 0) : rs D F = F a + F b := by
  rw [rs_rem ha F, rs_rem hb, rs_zero, if_neg (Ne.symm hab)]
  · grind
  · intro x hx
    split
    · rfl
    · rename_i h1
      split
      · rfl
      · rename_i h2; exact h x hx h2 h1
theorem rs_four {D a b c e : Nat} (ha : a < D) (hb : b < D) (hc : c < D) (he : e < D) (hab : a ≠ b) (hac : a ≠ c) (hae : a ≠ e) (hbc : b ≠ c) (hbe : b ≠ e) (hce : c ≠ e) {F : Nat → Rat} (h : ∀ x, x < D → x ≠ a → x ≠ b → x ≠ c → x ≠ e → F x = 0) : rs D F = F a + F b + (F c + F e) := by
  rw [rs_rem ha F, rs_rem hb, rs_two hc he hce, if_neg (Ne.symm hab), if_neg (Ne.symm hbc), if_neg (Ne.symm hbe), if_neg (Ne.symm hac), if_neg (Ne.symm hae)]
  · grind
  · intro x hx h1 h2
    split
    · rfl
    · rename_i h3
      split
      · rfl
      · rename_i h4; exact h x hx h4 h3 h1 h2
section
variable {n z : Nat} {ks : List (Nat × Nat)}
theorem cnt_le1 {m : Nat} {X : Nat → Prop} (hX : ∀ x y, X x → X y → x = y) : cntG n m X ≤ 1 := by
  classical
  unfold cntG
  have : ∀ l : List Nat, l.Nodup → l.countP (fun x => decide (X x ∧ ¬ gone n m x)) ≤ 1 := fun l hn => by
    induction l with
    | nil => simp
    | cons a l ih =>
      have hn2 := List.nodup_cons.1 hn
      rw [List.countP_cons]
      have := ih hn2.2
      by_cases e : X a
      · have h0 : l.countP (fun x => decide (X x ∧ ¬ gone n m x)) = 0 := by
          rw [List.countP_eq_zero]; intro x hx; rw [decide_eq_true_eq]; rintro ⟨h1, _⟩; exact hn2.1 (by rw [hX a x e h1]; exact hx)
        rw [h0]; split <;> omega
      · rw [if_neg (by rw [decide_eq_true_eq]; exact fun h => e h.1)]; omega
  exact this _ List.nodup_range
theorem cnt_1 {m p : Nat} : cntG n m (fun x => x = p) ≤ 1 := cnt_le1 fun x y h k => h.trans k.symm
theorem cnt_or {m : Nat} {X Y Z : Nat → Prop} (h : ∀ x, Z x → X x ∨ Y x) : cntG n m Z ≤ cntG n m X + cntG n m Y := by
  classical
  unfold cntG
  induction List.range n with
  | nil => simp
  | cons a l ih =>
    rw [List.countP_cons, List.countP_cons, List.countP_cons]
    have k : ∀ A B C : Bool, (C = true → A = true ∨ B = true) → (if C = true then 1 else 0) ≤ (if A = true then 1 else 0) + (if B = true then 1 else 0) := by intro A B C; cases A <;> cases B <;> cases C <;> simp
    have := k (decide (X a ∧ ¬ gone n m a)) (decide (Y a ∧ ¬ gone n m a)) (decide (Z a ∧ ¬ gone n m a)) (fun q => by
      rw [decide_eq_true_eq] at q; rw [decide_eq_true_eq, decide_eq_true_eq]
      rcases h a q.1 with r | r
      · exact .inl ⟨r, q.2⟩
      · exact .inr ⟨r, q.2⟩)
    omega
theorem cnt_all : cntG n 0 (fun _ => True) = n := by
  classical
  have h : ∀ X : Nat → Prop, (∀ x, X x) → cntG n 0 X = n := fun X hX => by
    unfold cntG
    rw [List.countP_eq_length.2 fun x _ => by rw [decide_eq_true_eq]; exact ⟨hX x, fun h => by simp [gone] at h⟩, List.length_range]
  exact h _ fun _ => trivial
theorem two_left {m : Nat} (hr : rem n z m = 2) : ∃ p q, p < n ∧ q < n ∧ p ≠ q ∧ (p ≠ z ∧ ¬ gone n m p) ∧ (q ≠ z ∧ ¬ gone n m q) ∧ ∀ x, x < n → x ≠ z → ¬ gone n m x → x = p ∨ x = q := by
  obtain ⟨p, hp, hpz, hpg⟩ := cntG_pos.1 (show 0 < rem n z m by omega)
  have h2 : ∃ q, q < n ∧ q ≠ z ∧ q ≠ p ∧ ¬ gone n m q := by
    refine Classical.byContradiction fun hc => ?_
    have h3 : rem n z m ≤ cntG n m (fun x => x = p) := cntG_le' fun x hx hg hxz => Classical.byContradiction fun h4 => hc ⟨x, hx, hxz, h4, hg⟩
    have := cnt_1 (n := n) (m := m) (p := p); omega
  obtain ⟨q, hq, hqz, hqp, hqg⟩ := h2
  refine ⟨p, q, hp, hq, Ne.symm hqp, ⟨hpz, hpg⟩, ⟨hqz, hqg⟩, fun x hx hxz hxg => Classical.byContradiction fun hc => ?_⟩
  have e1 := cntG_sum (n := n) (m := m) (X := fun y => y = p) (Y := fun y => y = q) (Z := fun y => y = p ∨ y = q) (fun _ h => .inl h) (fun _ h => .inr h) (fun y h => hqp (h.2.symm.trans h.1))
  have e2 := cntG_sum (n := n) (m := m) (X := fun y => y = p ∨ y = q) (Y := fun y => y = x) (Z := fun y => y ≠ z) (fun y h => by rcases h with rfl | rfl <;> assumption) (fun y h => by rw [h]; exact hxz) (fun y h => hc (by rw [← h.2]; exact h.1))
  have p1 := (cntG_pos (X := fun y => y = p)).2 ⟨p, hp, rfl, hpg⟩
  have p2 := (cntG_pos (X := fun y => y = q)).2 ⟨q, hq, rfl, hqg⟩
  have p3 := (cntG_pos (X := fun y => y = x)).2 ⟨x, hx, rfl, hxg⟩
  have hr' : cntG n m (fun y => y ≠ z) = 2 := hr
  omega
theorem new_op (hv : VB n ks) {m x b : Nat} (hx : okP n z ks m x) (hb : okP n z ks (ad m x) b) (hn : ¬ okP n z ks m b) : ¬ okP n z ks m (opc' n x) := fun ho => by
  have hex : ∃ p ∈ nds n ks, p.2 = b ∧ p.1 = x := by
    refine Classical.byContradiction fun hc => hn ⟨hb.1, hb.2.1, (ad_F.1 hb.2.2.1).1, (ad_F.1 hb.2.2.2.1).1, fun p hp e => ?_⟩
    rcases ad_T.1 (hb.2.2.2.2 p hp e) with h | h
    · exact h
    · exact absurd ⟨p, hp, e, h.symm⟩ hc
  obtain ⟨p, hp, e1, e2⟩ := hex
  have hob := (ad_F.1 hb.2.2.2.1).1
  rcases nds_mem.1 hp with h | ⟨q, h, rfl⟩
  · have hk := hv.2.2.2 p h
    have := ho.2.2.2.2 (n + p.2, n + p.1) (nds_mem.2 (.inr ⟨p, h, rfl⟩)) (by rw [← e2, op_d hk.1])
    rw [← e1, op_d hk.2.1] at hob
    simp only at this
    rw [hob] at this; cases this
  · simp only at e1 e2
    have := ho.2.2.2.2 q (nds_mem.2 (.inl h)) (by rw [← e2, op_u])
    rw [← e1, op_u] at hob
    rw [hob] at this; cases this
theorem base (hv : VB n ks) (hz : z < n) {m : Nat} (h : Val n z ks m) (hr : rem n z m = 2) : (sysR n z ks hv).Hyp 0 0 m := by
  obtain ⟨p, q, hp, hq, hpq, ⟨hpz, hpg⟩, ⟨hqz, hqg⟩, hall⟩ := two_left hr
  have okd : ∀ m' c, (sysR n z ks hv).ok m' c = decide (okP n z ks m' c) := fun _ _ => rfl
  have hel : ∀ x, okP n z ks m x → x = p ∨ x = n + p ∨ x = q ∨ x = n + q := fun x hx => by
    obtain ⟨h1, h2⟩ := ok_left hx
    rcases hall _ h2 hx.2.1 h1 with e | e
    · rcases cod hx.1 with h3 | ⟨y, hy, rfl⟩
      · rw [el_d h3] at e; exact .inl e
      · rw [el_u] at e; rw [e]; exact .inr (.inl rfl)
    · rcases cod hx.1 with h3 | ⟨y, hy, rfl⟩
      · rw [el_d h3] at e; exact .inr (.inr (.inl e))
      · rw [el_u] at e; rw [e]; exact .inr (.inr (.inr rfl))
  have hfin : ∀ x b, okP n z ks m x → okP n z ks (ad m x) b → (sysR n z ks hv).GG 0 0 (ad (ad m x) b) = 1 := fun x b hx hb => by
    have h0 : rem n z (ad (ad m x) b) = 0 := by have := rem_ad hx; have := rem_ad hb; omega
    have : (sysR n z ks hv).fin (ad (ad m x) b) = true := decide_eq_true fun y hy => by
      by_cases e : y = z
      · exact .inl e
      · exact .inr (left_of h0 (List.mem_range.1 hy) e)
    show (sysR n z ks hv).GB 0 _ = 1
    unfold Sys.GB; rw [if_pos this]
  have hrow : ∀ (x y y' : Nat) (w : Nat → Rat), x < 2 * n → (∀ b, okP n z ks m x → okP n z ks (ad m x) b → b = y ∨ b = y') → y < 2 * n → y' < 2 * n → y ≠ y' → mv (2 * n) ((sysR n z ks hv).Q ((sysR n z ks hv).GG 0 0) m) w x = bz ((sysR n z ks hv).ok m x) (bz ((sysR n z ks hv).ok (ad m x) y) (w ((sysR n z ks hv).rho m x y)) + bz ((sysR n z ks hv).ok (ad m x) y') (w ((sysR n z ks hv).rho m x y'))) := fun x y y' w hx hb hy hy' hne => by
    refine (Sys.mv_Q (sysR n z ks hv) (g := (sysR n z ks hv).GG 0 0) (m := m) hx w).trans ?_
    have hterm : ∀ b, (sysR n z ks hv).kw ((sysR n z ks hv).GG 0 0) m x b * w ((sysR n z ks hv).rho m x b) = bz ((sysR n z ks hv).ok m x && (sysR n z ks hv).ok (ad m x) b) (w ((sysR n z ks hv).rho m x b)) := fun b => by
      unfold Sys.kw bz
      by_cases e : ((sysR n z ks hv).ok m x && (sysR n z ks hv).ok (ad m x) b) = true
      · rw [if_pos e, if_pos e]
        rw [okd, okd, Bool.and_eq_true, decide_eq_true_eq, decide_eq_true_eq] at e
        rw [hfin x b e.1 e.2]; grind
      · rw [if_neg e, if_neg e]; grind
    refine (rs_two hy hy' hne fun b _ h1 h2 => ?_).trans ?_
    · show (sysR n z ks hv).kw ((sysR n z ks hv).GG 0 0) m x b * w ((sysR n z ks hv).rho m x b) = 0
      rw [hterm]; unfold bz
      refine if_neg fun e => ?_
      rw [okd, okd, Bool.and_eq_true, decide_eq_true_eq, decide_eq_true_eq] at e
      rcases hb b e.1 e.2 with h3 | h3
      · exact h1 h3
      · exact h2 h3
    · simp only [hterm]
      cases (sysR n z ks hv).ok m x <;> simp [bz] <;> grind
  have hel2 : ∀ x b, okP n z ks m x → okP n z ks (ad m x) b → elc n b ≠ elc n x ∧ (b = p ∨ b = n + p ∨ b = q ∨ b = n + q) := fun x b hx hb => by
    obtain ⟨h1, h2⟩ := ok_left hb
    rw [gone_ad hx.1 h2] at h1
    refine ⟨fun e => h1 (.inr e.symm), ?_⟩
    rcases hall _ h2 hb.2.1 (fun k => h1 (.inl k)) with e | e
    · rcases cod hb.1 with h3 | ⟨y, hy, rfl⟩
      · rw [el_d h3] at e; exact .inl e
      · rw [el_u] at e; rw [e]; exact .inr (.inl rfl)
    · rcases cod hb.1 with h3 | ⟨y, hy, rfl⟩
      · rw [el_d h3] at e; exact .inr (.inr (.inl e))
      · rw [el_u] at e; rw [e]; exact .inr (.inr (.inr rfl))
  have hcross : ∀ x b, okP n z ks m x → (x < n ↔ ¬ b < n) → elc n x ≠ elc n b → (sysR n z ks hv).ok (ad m x) b = (sysR n z ks hv).ok m b := fun x b hx ht hne => by
    rw [Bool.eq_iff_iff]
    constructor
    · intro h2
      cases e : (sysR n z ks hv).ok m b with
      | true => rfl
      | false =>
        have := (sysR n z ks hv).o3 (decide_eq_true hx) h2 e
        have this : decide (x < n) = decide (b < n) := this
        rw [decide_eq_decide] at this
        exact absurd this (by omega)
    · intro h2; exact decide_eq_true (ok_then hx (of_decide_eq_true h2) hne)
  have hsame : ∀ x b, okP n z ks m x → okP n z ks m b → elc n x ≠ elc n b → (sysR n z ks hv).ok (ad m x) b = true := fun x b hx hb hne => decide_eq_true (ok_then hx hb hne)
  have hnew : ∀ x b, (sysR n z ks hv).ok m x = true → (sysR n z ks hv).ok (ad m x) b = true → (sysR n z ks hv).ok m b = false → (sysR n z ks hv).ok m (opc' n x) = false := fun x b h1 h2 h3 => decide_eq_false (new_op hv (of_decide_eq_true h1) (of_decide_eq_true h2) (of_decide_eq_false h3))
  have epq : elc n p ≠ elc n q := by rw [el_d hp, el_d hq]; exact hpq
  have epQ : elc n p ≠ elc n (n + q) := by rw [el_d hp, el_u]; exact hpq
  have ePq : elc n (n + p) ≠ elc n q := by rw [el_u, el_d hq]; exact hpq
  have ePQ : elc n (n + p) ≠ elc n (n + q) := by rw [el_u, el_u]; exact hpq
  have form : ∀ v w : Nat → Rat, bf (2 * n) ((sysR n z ks hv).Q ((sysR n z ks hv).GG 0 0) m) v w = Bq ((sysR n z ks hv).ok m p) ((sysR n z ks hv).ok m (n + p)) ((sysR n z ks hv).ok m q) ((sysR n z ks hv).ok m (n + q)) ((sysR n z ks hv).ok (ad m p) q) ((sysR n z ks hv).ok (ad m (n + p)) (n + q)) ((sysR n z ks hv).ok (ad m q) p) ((sysR n z ks hv).ok (ad m (n + q)) (n + p)) (v p) (v (n + p)) (v q) (v (n + q)) (w p) (w (n + p)) (w q) (w (n + q)) := fun v w => by
    have r1 := hrow p q (n + q) w (by omega) (fun b h1 h2 => by
      obtain ⟨h3, h4⟩ := hel2 p b h1 h2
      rcases h4 with e | e | e | e
      · exact absurd (by rw [e]) h3
      · exact absurd (by rw [e, el_u, el_d hp]) h3
      · exact .inl e
      · exact .inr e) (by omega) (by omega) (by omega)
    have r2 := hrow (n + p) q (n + q) w (by omega) (fun b h1 h2 => by
      obtain ⟨h3, h4⟩ := hel2 (n + p) b h1 h2
      rcases h4 with e | e | e | e
      · exact absurd (by rw [e, el_u, el_d hp]) h3
      · exact absurd (by rw [e]) h3
      · exact .inl e
      · exact .inr e) (by omega) (by omega) (by omega)
    have r3 := hrow q p (n + p) w (by omega) (fun b h1 h2 => by
      obtain ⟨h3, h4⟩ := hel2 q b h1 h2
      rcases h4 with e | e | e | e
      · exact .inl e
      · exact .inr e
      · exact absurd (by rw [e]) h3
      · exact absurd (by rw [e, el_u, el_d hq]) h3) (by omega) (by omega) (by omega)
    have r4 := hrow (n + q) p (n + p) w (by omega) (fun b h1 h2 => by
      obtain ⟨h3, h4⟩ := hel2 (n + q) b h1 h2
      rcases h4 with e | e | e | e
      · exact .inl e
      · exact .inr e
      · exact absurd (by rw [e, el_u, el_d hq]) h3
      · exact absurd (by rw [e]) h3) (by omega) (by omega) (by omega)
    unfold bf
    rw [rs_four (a := p) (b := n + p) (c := q) (e := n + q) (by omega) (by omega) (by omega) (by omega) (by omega) hpq (by omega) (by omega) (by omega) (by omega) fun x hx h1 h2 h3 h4 => by
      have : (sysR n z ks hv).ok m x = false := decide_eq_false fun hk => by
        rcases hel x hk with e | e | e | e
        · exact h1 e
        · exact h2 e
        · exact h3 e
        · exact h4 e
      have e0 := Sys.mv_0 (sysR n z ks hv) (g := (sysR n z ks hv).GG 0 0) (m := m) hx this w
      have e0 : mv (2 * n) ((sysR n z ks hv).Q ((sysR n z ks hv).GG 0 0) m) w x = 0 := e0
      rw [e0]; grind]
    rw [r1, r2, r3, r4]
    have rr : ∀ a b, (sysR n z ks hv).rho m a b = if (sysR n z ks hv).ok m b = true then b else a := fun _ _ => rfl
    simp only [rr]
    have x1 : (sysR n z ks hv).ok m p = true → (sysR n z ks hv).ok (ad m p) (n + q) = (sysR n z ks hv).ok m (n + q) := fun k => hcross _ _ (of_decide_eq_true k) (by omega) epQ
    have x2 : (sysR n z ks hv).ok m (n + p) = true → (sysR n z ks hv).ok (ad m (n + p)) q = (sysR n z ks hv).ok m q := fun k => hcross _ _ (of_decide_eq_true k) (by omega) ePq
    have x3 : (sysR n z ks hv).ok m q = true → (sysR n z ks hv).ok (ad m q) (n + p) = (sysR n z ks hv).ok m (n + p) := fun k => hcross _ _ (of_decide_eq_true k) (by omega) (Ne.symm ePq)
    have x4 : (sysR n z ks hv).ok m (n + q) = true → (sysR n z ks hv).ok (ad m (n + q)) p = (sysR n z ks hv).ok m p := fun k => hcross _ _ (of_decide_eq_true k) (by omega) (Ne.symm epQ)
    revert x1 x2 x3 x4
    generalize (sysR n z ks hv).ok m p = a1
    generalize (sysR n z ks hv).ok m (n + p) = a2
    generalize (sysR n z ks hv).ok m q = a3
    generalize (sysR n z ks hv).ok m (n + q) = a4
    generalize (sysR n z ks hv).ok (ad m p) (n + q) = y1
    generalize (sysR n z ks hv).ok (ad m (n + p)) q = y2
    generalize (sysR n z ks hv).ok (ad m q) (n + p) = y3
    generalize (sysR n z ks hv).ok (ad m (n + q)) p = y4
    intro x1 x2 x3 x4
    unfold Bq
    have t1 : v p * bz a1 (bz ((sysR n z ks hv).ok (ad m p) q) (w (if a3 = true then q else p)) + bz y1 (w (if a4 = true then n + q else p))) = bz a1 (v p * (bz ((sysR n z ks hv).ok (ad m p) q) (if a3 = true then w q else w p) + bz a4 (w (n + q)))) := by
      cases a1 with
      | false => simp [bz]
      | true => rw [x1 rfl]; cases a3 <;> cases a4 <;> simp [bz]
    have t2 : v (n + p) * bz a2 (bz y2 (w (if a3 = true then q else n + p)) + bz ((sysR n z ks hv).ok (ad m (n + p)) (n + q)) (w (if a4 = true then n + q else n + p))) = bz a2 (v (n + p) * (bz a3 (w q) + bz ((sysR n z ks hv).ok (ad m (n + p)) (n + q)) (if a4 = true then w (n + q) else w (n + p)))) := by
      cases a2 with
      | false => simp [bz]
      | true => rw [x2 rfl]; cases a3 <;> cases a4 <;> simp [bz]
    have t3 : v q * bz a3 (bz ((sysR n z ks hv).ok (ad m q) p) (w (if a1 = true then p else q)) + bz y3 (w (if a2 = true then n + p else q))) = bz a3 (v q * (bz ((sysR n z ks hv).ok (ad m q) p) (if a1 = true then w p else w q) + bz a2 (w (n + p)))) := by
      cases a3 with
      | false => simp [bz]
      | true => rw [x3 rfl]; cases a1 <;> cases a2 <;> simp [bz]
    have t4 : v (n + q) * bz a4 (bz y4 (w (if a1 = true then p else n + q)) + bz ((sysR n z ks hv).ok (ad m (n + q)) (n + p)) (w (if a2 = true then n + p else n + q))) = bz a4 (v (n + q) * (bz a1 (w p) + bz ((sysR n z ks hv).ok (ad m (n + q)) (n + p)) (if a2 = true then w (n + p) else w (n + q)))) := by
      cases a4 with
      | false => simp [bz]
      | true => rw [x4 rfl]; cases a1 <;> cases a2 <;> simp [bz]
    rw [t1, t2, t3, t4]
  have hchk : chq ((sysR n z ks hv).ok m p) ((sysR n z ks hv).ok m (n + p)) ((sysR n z ks hv).ok m q) ((sysR n z ks hv).ok m (n + q)) ((sysR n z ks hv).ok (ad m p) q) ((sysR n z ks hv).ok (ad m (n + p)) (n + q)) ((sysR n z ks hv).ok (ad m q) p) ((sysR n z ks hv).ok (ad m (n + q)) (n + p)) = true := by
    have k1 : (sysR n z ks hv).ok m p = true → (sysR n z ks hv).ok m q = true → (sysR n z ks hv).ok (ad m p) q = true ∧ (sysR n z ks hv).ok (ad m q) p = true := fun h1 h2 => ⟨hsame _ _ (of_decide_eq_true h1) (of_decide_eq_true h2) epq, hsame _ _ (of_decide_eq_true h2) (of_decide_eq_true h1) (Ne.symm epq)⟩
    have k2 : (sysR n z ks hv).ok m (n + p) = true → (sysR n z ks hv).ok m (n + q) = true → (sysR n z ks hv).ok (ad m (n + p)) (n + q) = true ∧ (sysR n z ks hv).ok (ad m (n + q)) (n + p) = true := fun h1 h2 => ⟨hsame _ _ (of_decide_eq_true h1) (of_decide_eq_true h2) ePQ, hsame _ _ (of_decide_eq_true h2) (of_decide_eq_true h1) (Ne.symm ePQ)⟩
    have k3 := hnew p q
    have k4 := hnew (n + p) (n + q)
    have k5 := hnew q p
    have k6 := hnew (n + q) (n + p)
    rw [op_d hp] at k3; rw [op_u] at k4; rw [op_d hq] at k5; rw [op_u] at k6
    revert k1 k2 k3 k4 k5 k6
    generalize (sysR n z ks hv).ok m p = a1
    generalize (sysR n z ks hv).ok m (n + p) = a2
    generalize (sysR n z ks hv).ok m q = a3
    generalize (sysR n z ks hv).ok m (n + q) = a4
    generalize (sysR n z ks hv).ok (ad m p) q = c1
    generalize (sysR n z ks hv).ok (ad m (n + p)) (n + q) = c4
    generalize (sysR n z ks hv).ok (ad m q) p = d1
    generalize (sysR n z ks hv).ok (ad m (n + q)) (n + p) = d4
    intro k1 k2 k3 k4 k5 k6
    cases a1 <;> cases a2 <;> cases a3 <;> cases a4 <;> cases c1 <;> cases c4 <;> cases d1 <;> cases d4 <;> first | rfl | (simp at k1 k2 k3 k4 k5 k6)
  intro t _ _ v
  have f1 := form v v
  have f2 := form ((sysR n z ks hv).hh t) ((sysR n z ks hv).hh t)
  have f3 := form v ((sysR n z ks hv).hh t)
  show bf (2 * n) _ v v * bf (2 * n) _ _ _ ≤ bf (2 * n) _ v _ * bf (2 * n) _ v _
  rw [f1, f2, f3]
  exact base_q _ _ _ _ _ _ _ _ hchk _ _ _ _ _ _ _ _
theorem bf_mix (S : Sys) {g g' : Nat → Rat} {t : Rat} {m : Nat} (v w : Nat → Rat) : bf S.D (S.Q (fun m => t * g m + (1 - t) * g' m) m) v w = t * bf S.D (S.Q g m) v w + (1 - t) * bf S.D (S.Q g' m) v w := by
  unfold bf
  rw [← rs_mul, ← rs_mul, ← rs_add]
  refine rs_congr fun x hx => ?_
  rw [Sys.mv_Q S hx, Sys.mv_Q S hx, Sys.mv_Q S hx]
  rw [show t * (v x * rs S.D fun b => S.kw g m x b * w (S.rho m x b)) + (1 - t) * (v x * rs S.D fun b => S.kw g' m x b * w (S.rho m x b)) = v x * (t * (rs S.D fun b => S.kw g m x b * w (S.rho m x b)) + (1 - t) * rs S.D fun b => S.kw g' m x b * w (S.rho m x b)) by grind]
  congr 1
  rw [← rs_mul, ← rs_mul, ← rs_add]
  refine rs_congr fun b _ => ?_
  unfold Sys.kw
  split <;> grind
theorem hyp_all (hv : VB n ks) (ha : Acy n ks) (hz : z < n) : ∀ (k i j m : Nat), i + j = k → Val n z ks m → rem n z m = i + j + 2 → (sysR n z ks hv).Hyp i j m
  | 0, i, j, m, hk, h, hr => by
    obtain ⟨rfl, rfl⟩ : i = 0 ∧ j = 0 := by omega
    exact base hv hz h hr
  | k + 1, i, j, m, hk, h, hr => by
    have main : ∀ (i' j' : Nat), i' + j' = k → ∀ s : Rat, 0 < s → s < 1 → ∀ v, ∀ t : Rat, 0 < t → t < 1 → bf (2 * n) ((sysR n z ks hv).Q ((sysR n z ks hv).gt' t i' j') m) v v * bf (2 * n) ((sysR n z ks hv).Q ((sysR n z ks hv).gt' t i' j') m) ((sysR n z ks hv).hh s) ((sysR n z ks hv).hh s) ≤ bf (2 * n) ((sysR n z ks hv).Q ((sysR n z ks hv).gt' t i' j') m) v ((sysR n z ks hv).hh s) * bf (2 * n) ((sysR n z ks hv).Q ((sysR n z ks hv).gt' t i' j') m) v ((sysR n z ks hv).hh s) := fun i' j' hk' s s0 s1 v t t0 t1 => by
      refine Sys.step (sysR n z ks hv) t0 t1 (fun c hc hok => ?_) (fun u hu => conn hv ha hz t0 t1 h (by omega) u hu) v _ (fun c => by have := (sysR n z ks hv).hh_pos s0 s1 c; grind)
      have hok := of_decide_eq_true hok
      exact hyp_all hv ha hz k i' j' _ hk' (val_ad hz h hok) (by have := rem_ad hok; omega)
    intro s s0 s1 v
    have expd : ∀ (i' j' : Nat) (t : Rat) (v w : Nat → Rat), bf (2 * n) ((sysR n z ks hv).Q ((sysR n z ks hv).gt' t i' j') m) v w = t * bf (2 * n) ((sysR n z ks hv).Q ((sysR n z ks hv).GG i' (j' + 1)) m) v w + (1 - t) * bf (2 * n) ((sysR n z ks hv).Q ((sysR n z ks hv).GG (i' + 1) j') m) v w := fun i' j' t v w => bf_mix (sysR n z ks hv) v w
    have go : ∀ (i' j' : Nat), i' + j' = k → ∃ a b c : Rat, (∀ t : Rat, 0 < t → t < 1 → 0 ≤ a * (t * t) + b * t + c) ∧
        c = bf (2 * n) ((sysR n z ks hv).Q ((sysR n z ks hv).GG (i' + 1) j') m) v ((sysR n z ks hv).hh s) * bf (2 * n) ((sysR n z ks hv).Q ((sysR n z ks hv).GG (i' + 1) j') m) v ((sysR n z ks hv).hh s) - bf (2 * n) ((sysR n z ks hv).Q ((sysR n z ks hv).GG (i' + 1) j') m) v v * bf (2 * n) ((sysR n z ks hv).Q ((sysR n z ks hv).GG (i' + 1) j') m) ((sysR n z ks hv).hh s) ((sysR n z ks hv).hh s) ∧
        a + b + c = bf (2 * n) ((sysR n z ks hv).Q ((sysR n z ks hv).GG i' (j' + 1)) m) v ((sysR n z ks hv).hh s) * bf (2 * n) ((sysR n z ks hv).Q ((sysR n z ks hv).GG i' (j' + 1)) m) v ((sysR n z ks hv).hh s) - bf (2 * n) ((sysR n z ks hv).Q ((sysR n z ks hv).GG i' (j' + 1)) m) v v * bf (2 * n) ((sysR n z ks hv).Q ((sysR n z ks hv).GG i' (j' + 1)) m) ((sysR n z ks hv).hh s) ((sysR n z ks hv).hh s) := fun i' j' hk' => by
      have hm := main i' j' hk' s s0 s1 v
      simp only [expd] at hm
      generalize bf (2 * n) ((sysR n z ks hv).Q ((sysR n z ks hv).GG i' (j' + 1)) m) v ((sysR n z ks hv).hh s) = X1 at *
      generalize bf (2 * n) ((sysR n z ks hv).Q ((sysR n z ks hv).GG (i' + 1) j') m) v ((sysR n z ks hv).hh s) = X0 at *
      generalize bf (2 * n) ((sysR n z ks hv).Q ((sysR n z ks hv).GG i' (j' + 1)) m) v v = V1 at *
      generalize bf (2 * n) ((sysR n z ks hv).Q ((sysR n z ks hv).GG (i' + 1) j') m) v v = V0 at *
      generalize bf (2 * n) ((sysR n z ks hv).Q ((sysR n z ks hv).GG i' (j' + 1)) m) ((sysR n z ks hv).hh s) ((sysR n z ks hv).hh s) = W1 at *
      generalize bf (2 * n) ((sysR n z ks hv).Q ((sysR n z ks hv).GG (i' + 1) j') m) ((sysR n z ks hv).hh s) ((sysR n z ks hv).hh s) = W0 at *
      refine ⟨(X1 - X0) * (X1 - X0) - (V1 - V0) * (W1 - W0), 2 * X0 * (X1 - X0) - V0 * (W1 - W0) - W0 * (V1 - V0), X0 * X0 - V0 * W0, fun t t0 t1 => ?_, rfl, by grind⟩
      have := hm t t0 t1
      grind
    show bf (2 * n) _ v v * bf (2 * n) _ _ _ ≤ bf (2 * n) _ v _ * bf (2 * n) _ v _
    rcases j with _ | j
    · obtain ⟨i', rfl⟩ : ∃ i', i = i' + 1 := ⟨i - 1, by omega⟩
      obtain ⟨a, b, c, h1, h2, _⟩ := go i' 0 (by omega)
      have := lim_0 h1
      grind
    · obtain ⟨a, b, c, h1, _, h2⟩ := go i j (by omega)
      have := lim_1 h1
      grind
theorem stanley (hv : VB n ks) (ha : Acy n ks) (hz : z < n) {i j : Nat} (hr : i + j + 3 = n) : (sysR n z ks hv).GG i (j + 2) 0 * (sysR n z ks hv).GG (i + 2) j 0 ≤ (sysR n z ks hv).GG (i + 1) (j + 1) 0 * (sysR n z ks hv).GG (i + 1) (j + 1) 0 := by
  have hrem : rem n z 0 = i + j + 2 := by
    have h1 := cntG_sum (n := n) (m := 0) (X := fun x => x ≠ z) (Y := fun x => x = z) (Z := fun _ => True) (fun _ _ => trivial) (fun _ _ => trivial) (fun _ h => h.1 h.2)
    have h2 := cnt_all (n := n)
    have h3 := (cntG_pos (n := n) (m := 0) (X := fun x => x = z)).2 ⟨z, hz, rfl, fun h => by simp [gone] at h⟩
    have h4 := cnt_or (n := n) (m := 0) (X := fun x => x ≠ z) (Y := fun x => x = z) (Z := fun _ => True) fun x _ => by
      by_cases e : x = z
      · exact .inr e
      · exact .inl e
    have h5 := cnt_1 (n := n) (m := 0) (p := z)
    unfold rem
    omega
  have hyp := hyp_all hv ha hz (i + j) i j 0 rfl val_0 hrem
  let S := sysR n z ks hv
  let U : Nat → Rat := fun c => if S.tp c = true then 0 else 1
  let E : Nat → Rat := fun c => if S.tp c = true then 1 else 0
  have hdec : ∀ t, S.hh t = fun c => (1 - t) * E c + t * U c := fun t => by
    funext c; show (if S.tp c = true then 1 - t else t) = (1 - t) * (if S.tp c = true then 1 else 0) + t * (if S.tp c = true then 0 else 1)
    split <;> grind
  have sym : ∀ x y, x < S.D → y < S.D → S.Q (S.GG i j) 0 x y = S.Q (S.GG i j) 0 y x := fun x y hx hy => Sys.Q_sym S hx hy
  have rowK : ∀ (f : Bool → Rat) c, c < S.D → mv S.D (S.Q (S.GG i j) 0) (fun b => f (S.tp b)) c = if S.ok 0 c = true then rs S.D (fun b => if S.ok (ad 0 c) b = true then f (S.tp b) * S.GG i j (ad (ad 0 c) b) else 0) else 0 := fun f c hc => by
    rw [Sys.mv_Q S hc]
    cases h : S.ok 0 c with
    | false => rw [rs_zero fun b _ => by rw [Sys.kw_ok S h]; grind]; simp
    | true =>
      rw [if_pos rfl]
      refine rs_congr fun b _ => ?_
      unfold Sys.kw
      rw [h, Bool.true_and]
      cases h2 : S.ok (ad 0 c) b with
      | false => simp
      | true =>
        rw [if_pos rfl, if_pos rfl]
        have : S.tp (S.rho 0 c b) = S.tp b := by
          unfold Sys.rho; split
          · rfl
          · rename_i h3; exact S.o3 h h2 (by simpa using h3)
        rw [this]; grind
  have eE : ∀ c, c < S.D → mv S.D (S.Q (S.GG i j) 0) E c = if S.ok 0 c = true then S.GG (i + 1) j (ad 0 c) else 0 := fun c hc => by
    refine (rowK (fun b => if b = true then 1 else 0) c hc).trans ?_
    cases S.ok 0 c with
    | false => simp
    | true =>
      rw [if_pos rfl, if_pos rfl]
      show _ = rs S.D _
      refine rs_congr fun b _ => ?_
      cases S.ok (ad 0 c) b <;> cases S.tp b <;> simp
  have eU : ∀ c, c < S.D → mv S.D (S.Q (S.GG i j) 0) U c = if S.ok 0 c = true then S.GG i (j + 1) (ad 0 c) else 0 := fun c hc => by
    refine (rowK (fun b => if b = true then 0 else 1) c hc).trans ?_
    cases S.ok 0 c with
    | false => simp
    | true =>
      rw [if_pos rfl, if_pos rfl, Sys.GG_u]
      refine rs_congr fun b _ => ?_
      cases S.ok (ad 0 c) b <;> cases S.tp b <;> simp
  have fEE : bf S.D (S.Q (S.GG i j) 0) E E = S.GG (i + 2) j 0 := by
    show rs S.D _ = rs S.D _
    refine rs_congr fun c hc => ?_
    rw [eE c hc]
    show (if S.tp c = true then (1 : Rat) else 0) * _ = _
    cases S.ok 0 c <;> cases S.tp c <;> simp
  have fUE : bf S.D (S.Q (S.GG i j) 0) U E = S.GG (i + 1) (j + 1) 0 := by
    rw [Sys.GG_u]
    refine rs_congr fun c hc => ?_
    rw [eE c hc]
    show (if S.tp c = true then (0 : Rat) else 1) * _ = _
    cases S.ok 0 c <;> cases S.tp c <;> simp
  have fUU : bf S.D (S.Q (S.GG i j) 0) U U = S.GG i (j + 2) 0 := by
    rw [Sys.GG_u]
    refine rs_congr fun c hc => ?_
    rw [eU c hc]
    show (if S.tp c = true then (0 : Rat) else 1) * _ = _
    cases S.ok 0 c <;> cases S.tp c <;> simp
  have e1 : ∀ t, bf S.D (S.Q (S.GG i j) 0) U (S.hh t) = (1 - t) * S.GG (i + 1) (j + 1) 0 + t * S.GG i (j + 2) 0 := fun t => by
    rw [bf_comm sym, hdec, bf_lin1, bf_comm sym E U, fUE, fUU]
  have e2 : ∀ t, bf S.D (S.Q (S.GG i j) 0) (S.hh t) (S.hh t) = (1 - t) * (1 - t) * S.GG (i + 2) j 0 + 2 * ((1 - t) * t * S.GG (i + 1) (j + 1) 0) + t * t * S.GG i (j + 2) 0 := fun t => by
    rw [hdec, bf_lin sym, bf_comm sym E U, fUE, fUU, fEE]
  have hq : ∀ t : Rat, 0 < t → t < 1 → bf S.D (S.Q (S.GG i j) 0) U U * bf S.D (S.Q (S.GG i j) 0) (S.hh t) (S.hh t) ≤ bf S.D (S.Q (S.GG i j) 0) U (S.hh t) * bf S.D (S.Q (S.GG i j) 0) U (S.hh t) := fun t t0 t1 => hyp t t0 t1 U
  simp only [e1, e2, fUU] at hq
  show S.GG i (j + 2) 0 * S.GG (i + 2) j 0 ≤ S.GG (i + 1) (j + 1) 0 * S.GG (i + 1) (j + 1) 0
  generalize S.GG i (j + 2) 0 = A at *
  generalize S.GG (i + 1) (j + 1) 0 = B at *
  generalize S.GG (i + 2) j 0 = C at *
  have := lim_0 (a := (A - B) * (A - B) - A * (C - 2 * B + A)) (b := 2 * B * (A - B) - A * (2 * B - 2 * C)) (c := B * B - A * C) fun t t0 t1 => by
    have := hq t t0 t1; grind
  grind
end
end Go.Proofs.Ythmibifghihdaaa
end

section
namespace Go.Proofs.Ythmibifghihdaaa
set_option maxRecDepth 20000
section
variable {n z : Nat} {ks : List (Nat × Nat)}
def WB (S : Sys) (n z : Nat) : Nat → Nat → List (List Nat)
  | 0, m => if S.fin m = true then [[z]] else []
  | j + 1, m => (List.range S.D).flatMap fun c => if (S.ok m c && !S.tp c) = true then (WB S n z j (ad m c)).map (· ++ [elc n c]) else []
def WG (S : Sys) (n z : Nat) : Nat → Nat → Nat → List (List Nat)
  | 0, j, m => WB S n z j m
  | i + 1, j, m => (List.range S.D).flatMap fun c => if (S.ok m c && S.tp c) = true then (WG S n z i j (ad m c)).map (elc n c :: ·) else []
theorem cast_add (a b : Nat) : ((a + b : Nat) : Rat) = (a : Rat) + (b : Rat) := by
  have : ((a + b : Nat) : Rat) = (((a + b : Nat) : Int) : Rat) := rfl
  rw [this, Int.natCast_add, Rat.intCast_add]; rfl
theorem flat_rs {f : Nat → List (List Nat)} {g : Nat → Rat} : ∀ (D : Nat), (∀ c, c < D → ((f c).length : Rat) = g c) → ((((List.range D).flatMap f).length : Nat) : Rat) = rs D g
  | 0, _ => rfl
  | D + 1, h => by
    rw [List.range_succ, List.flatMap_append, List.length_append, cast_add, flat_rs D fun c hc => h c (by omega)]
    show _ + _ = rs D g + g D
    rw [← h D (by omega)]; simp
theorem WB_len (S : Sys) : ∀ j m, (((WB S n z j m).length : Nat) : Rat) = S.GB j m
  | 0, m => by unfold WB Sys.GB; split <;> rfl
  | j + 1, m => by
    refine flat_rs S.D fun c _ => ?_
    split
    · rw [List.length_map]; exact WB_len S j _
    · rfl
theorem WG_len (S : Sys) : ∀ i j m, (((WG S n z i j m).length : Nat) : Rat) = S.GG i j m
  | 0, j, m => WB_len S j m
  | i + 1, j, m => by
    refine flat_rs S.D fun c _ => ?_
    split
    · rw [List.length_map]; exact WG_len S i j _
    · rfl
theorem WB_nodup (hv : VB n ks) : ∀ j m, (WB (sysR n z ks hv) n z j m).Nodup
  | 0, m => by unfold WB; split <;> simp
  | j + 1, m => by
    refine flat_nodup List.nodup_range (fun c _ => ?_) fun a ha b hb hab x hx hx2 => ?_
    · split
      · exact map_nodup (fun x y h => List.append_cancel_right h) (WB_nodup hv j _)
      · exact List.nodup_nil
    · split at hx
      · rename_i h1
        split at hx2
        · rename_i h2
          obtain ⟨o, _, rfl⟩ := List.mem_map.1 hx
          obtain ⟨p, _, e⟩ := List.mem_map.1 hx2
          have := congrArg List.getLast? e
          simp at this
          have h1 : (decide (okP n z ks m a) && !decide (a < n)) = true := h1
          have h2 : (decide (okP n z ks m b) && !decide (b < n)) = true := h2
          rw [Bool.and_eq_true, Bool.not_eq_true', decide_eq_false_iff_not] at h1 h2
          unfold elc at this
          rw [if_neg h1.2, if_neg h2.2] at this
          omega
        · cases hx2
      · cases hx
theorem WG_nodup (hv : VB n ks) : ∀ i j m, (WG (sysR n z ks hv) n z i j m).Nodup
  | 0, j, m => WB_nodup hv j m
  | i + 1, j, m => by
    refine flat_nodup List.nodup_range (fun c _ => ?_) fun a ha b hb hab x hx hx2 => ?_
    · split
      · exact map_nodup (fun x y h => (List.cons.inj h).2) (WG_nodup hv i j _)
      · exact List.nodup_nil
    · split at hx
      · rename_i h1
        split at hx2
        · rename_i h2
          obtain ⟨o, _, rfl⟩ := List.mem_map.1 hx
          obtain ⟨p, _, e⟩ := List.mem_map.1 hx2
          have := (List.cons.inj e).1
          have h1 : (decide (okP n z ks m a) && decide (a < n)) = true := h1
          have h2 : (decide (okP n z ks m b) && decide (b < n)) = true := h2
          rw [Bool.and_eq_true, decide_eq_true_eq, decide_eq_true_eq] at h1 h2
          rw [el_d h1.2, el_d h2.2] at this
          exact hab this.symm
        · cases hx2
      · cases hx
def Wd (n : Nat) (ks : List (Nat × Nat)) (m : Nat) (o : List Nat) : Prop := o.Nodup ∧ (∀ x, x ∈ o ↔ x < n ∧ ¬ gone n m x) ∧ o.Pairwise fun a b => (b, a) ∉ ks
theorem WB_mem (hv : VB n ks) (hz : z < n) : ∀ (j m : Nat) (o : List Nat), Val n z ks m → (o ∈ WB (sysR n z ks hv) n z j m ↔ Wd n ks m o ∧ ∃ b, o = z :: b ∧ b.length = j)
  | 0, m, o, h => by
    have hf : (sysR n z ks hv).fin m = true ↔ ∀ x ∈ List.range n, x = z ∨ gone n m x := ⟨fun h => of_decide_eq_true h, fun h => decide_eq_true h⟩
    unfold WB
    constructor
    · intro ho
      split at ho
      · rename_i h1
        rw [hf] at h1
        rw [List.mem_singleton] at ho
        subst ho
        refine ⟨⟨by simp, fun x => ?_, by simp⟩, [], rfl, rfl⟩
        rw [List.mem_singleton]
        constructor
        · rintro rfl; exact ⟨hz, h.v2⟩
        · rintro ⟨hx, hg⟩
          rcases h1 x (List.mem_range.2 hx) with e | e
          · exact e
          · exact absurd e hg
      · cases ho
    · rintro ⟨⟨_, h2, _⟩, b, rfl, hb⟩
      have : b = [] := List.eq_nil_of_length_eq_zero hb
      subst this
      rw [if_pos]
      · exact List.mem_singleton.2 rfl
      · rw [hf]
        intro x hx
        by_cases e : x = z
        · exact .inl e
        · right
          refine Classical.byContradiction fun hg => e ?_
          have := (h2 x).2 ⟨List.mem_range.1 hx, hg⟩
          simpa using this
  | j + 1, m, o, h => by
    constructor
    · intro ho
      obtain ⟨c, hc, ho⟩ := List.mem_flatMap.1 ho
      split at ho
      · rename_i h1
        have h1 : (decide (okP n z ks m c) && !decide (c < n)) = true := h1
        rw [Bool.and_eq_true, decide_eq_true_eq, Bool.not_eq_true', decide_eq_false_iff_not] at h1
        obtain ⟨x, hx, rfl⟩ := (cod (List.mem_range.1 hc)).resolve_left h1.2
        have hok := h1.1
        obtain ⟨o', ho', rfl⟩ := List.mem_map.1 ho
        obtain ⟨⟨w1, w2, w3⟩, b, rfl, hb⟩ := (WB_mem hv hz j _ o' (val_ad hz h hok)).1 ho'
        have hl := ok_left hok
        rw [el_u] at hl ⊢
        have hxn : x ∉ z :: b := fun hm => by
          have := ((w2 x).1 hm).2
          rw [gone_ad hok.1 hx, el_u] at this; exact this (.inr rfl)
        refine ⟨⟨?_, fun y => ?_, ?_⟩, b ++ [x], rfl, by rw [List.length_append, hb]; rfl⟩
        · rw [List.nodup_append]
          refine ⟨w1, by simp, fun a ha b hb => ?_⟩
          rw [List.mem_singleton] at hb; rw [hb]; exact fun e => hxn (e ▸ ha)
        · rw [List.mem_append, w2, List.mem_singleton]
          constructor
          · rintro (⟨a1, a2⟩ | rfl)
            · rw [gone_ad hok.1 a1] at a2; exact ⟨a1, fun k => a2 (.inl k)⟩
            · exact ⟨hx, hl.1⟩
          · rintro ⟨a1, a2⟩
            by_cases e : y = x
            · exact .inr e
            · left; refine ⟨a1, ?_⟩
              rw [gone_ad hok.1 a1, el_u]; rintro (k | k)
              · exact a2 k
              · exact e k.symm
        · rw [List.pairwise_append]
          refine ⟨w3, by simp, fun a ha b hb => ?_⟩
          rw [List.mem_singleton] at hb; subst hb
          intro hk
          have := hok.2.2.2.2 (n + a, n + b) (nds_mem.2 (.inr ⟨_, hk, rfl⟩)) rfl
          have ha2 := (w2 a).1 ha
          rw [gone_ad hok.1 ha2.1] at ha2
          exact ha2.2 (.inl (.inr this))
      · cases ho
    · rintro ⟨⟨w1, w2, w3⟩, b, rfl, hb⟩
      obtain ⟨b', x, rfl⟩ : ∃ b' x, b = b' ++ [x] := ⟨b.dropLast, b.getLast (by intro e; rw [e] at hb; simp at hb), (List.dropLast_concat_getLast _).symm⟩
      have hb' : b'.length = j := by rw [List.length_append] at hb; simpa using hb
      rw [← List.cons_append] at w1 w2 w3
      have w1' := List.nodup_append.1 w1
      have w3' := List.pairwise_append.1 w3
      have hx := (w2 x).1 (List.mem_append_right _ (List.mem_singleton.2 rfl))
      have hxn : x ∉ z :: b' := fun hm => w1'.2.2 x hm x (List.mem_singleton.2 rfl) rfl
      have hok : okP n z ks m (n + x) := ok_back hv h hx.1 (fun e => hxn (by rw [e]; exact List.mem_cons_self)) hx.2 fun y hy => by
        refine Classical.byContradiction fun hg => ?_
        have hyn := (hv.2.2.2 _ hy)
        rcases List.mem_append.1 ((w2 y).2 ⟨hyn.2.1, hg⟩) with h1 | h1
        · exact w3'.2.2 y h1 x (List.mem_singleton.2 rfl) hy
        · rw [List.mem_singleton] at h1; exact hyn.2.2 h1.symm
      refine List.mem_flatMap.2 ⟨n + x, List.mem_range.2 hok.1, ?_⟩
      rw [if_pos (show ((sysR n z ks hv).ok m (n + x) && !(sysR n z ks hv).tp (n + x)) = true from by
        show (decide (okP n z ks m (n + x)) && !decide (n + x < n)) = true
        rw [decide_eq_true hok, decide_eq_false (by omega)]; rfl)]
      refine List.mem_map.2 ⟨z :: b', (WB_mem hv hz j _ _ (val_ad hz h hok)).2 ⟨⟨w1'.1, fun y => ?_, w3'.1⟩, b', rfl, hb'⟩, by rw [el_u]; rfl⟩
      constructor
      · intro hy
        have := (w2 y).1 (List.mem_append_left _ hy)
        refine ⟨this.1, ?_⟩
        rw [gone_ad hok.1 this.1, el_u]; rintro (k | k)
        · exact this.2 k
        · exact hxn (k ▸ hy)
      · rintro ⟨a1, a2⟩
        rw [gone_ad hok.1 a1, el_u] at a2
        rcases List.mem_append.1 ((w2 y).2 ⟨a1, fun k => a2 (.inl k)⟩) with h1 | h1
        · exact h1
        · rw [List.mem_singleton] at h1; exact absurd (.inr h1.symm) a2
theorem WG_mem (hv : VB n ks) (hz : z < n) : ∀ (i j m : Nat) (o : List Nat), Val n z ks m → (o ∈ WG (sysR n z ks hv) n z i j m ↔ Wd n ks m o ∧ ∃ a b, o = a ++ z :: b ∧ a.length = i ∧ b.length = j)
  | 0, j, m, o, h => by
    rw [show WG (sysR n z ks hv) n z 0 j m = WB (sysR n z ks hv) n z j m from rfl, WB_mem hv hz j m o h]
    constructor
    · rintro ⟨h1, b, rfl, hb⟩; exact ⟨h1, [], b, rfl, rfl, hb⟩
    · rintro ⟨h1, a, b, rfl, ha, hb⟩
      have : a = [] := List.eq_nil_of_length_eq_zero ha
      subst this; exact ⟨h1, b, rfl, hb⟩
  | i + 1, j, m, o, h => by
    constructor
    · intro ho
      obtain ⟨x, hc, ho⟩ := List.mem_flatMap.1 ho
      split at ho
      · rename_i h1
        have h1 : (decide (okP n z ks m x) && decide (x < n)) = true := h1
        rw [Bool.and_eq_true, decide_eq_true_eq, decide_eq_true_eq] at h1
        obtain ⟨hok, hx⟩ := h1
        obtain ⟨o', ho', rfl⟩ := List.mem_map.1 ho
        obtain ⟨⟨w1, w2, w3⟩, a, b, rfl, ha, hb⟩ := (WG_mem hv hz i j _ o' (val_ad hz h hok)).1 ho'
        have hl := ok_left hok
        rw [el_d hx] at hl ⊢
        have hxn : x ∉ a ++ z :: b := fun hm => by
          have := ((w2 x).1 hm).2
          rw [gone_ad hok.1 hx, el_d hx] at this; exact this (.inr rfl)
        refine ⟨⟨List.nodup_cons.2 ⟨hxn, w1⟩, fun y => ?_, List.pairwise_cons.2 ⟨fun y hy hk => ?_, w3⟩⟩, x :: a, b, rfl, by rw [List.length_cons, ha], hb⟩
        · rw [List.mem_cons, w2]
          constructor
          · rintro (rfl | ⟨a1, a2⟩)
            · exact ⟨hx, hl.1⟩
            · rw [gone_ad hok.1 a1] at a2; exact ⟨a1, fun k => a2 (.inl k)⟩
          · rintro ⟨a1, a2⟩
            by_cases e : y = x
            · exact .inl e
            · right; refine ⟨a1, ?_⟩
              rw [gone_ad hok.1 a1, el_d hx]; rintro (k | k)
              · exact a2 k
              · exact e k.symm
        · have := hok.2.2.2.2 (y, x) (nds_mem.2 (.inl hk)) rfl
          have hy2 := (w2 y).1 hy
          rw [gone_ad hok.1 hy2.1] at hy2
          exact hy2.2 (.inl (.inl this))
      · cases ho
    · rintro ⟨⟨w1, w2, w3⟩, a, b, rfl, ha, hb⟩
      obtain ⟨x, a', rfl⟩ : ∃ x a', a = x :: a' := by
        cases a with
        | nil => simp at ha
        | cons x a' => exact ⟨x, a', rfl⟩
      rw [List.cons_append] at w1 w2 w3
      have w1' := List.nodup_cons.1 w1
      have w3' := List.pairwise_cons.1 w3
      have hx := (w2 x).1 List.mem_cons_self
      have hok : okP n z ks m x := ok_front hv h hx.1 (fun e => w1'.1 (by rw [e]; simp)) hx.2 fun y hy => by
        refine Classical.byContradiction fun hg => ?_
        have hyn := (hv.2.2.2 _ hy)
        rcases List.mem_cons.1 ((w2 y).2 ⟨hyn.1, hg⟩) with h1 | h1
        · exact hyn.2.2 h1
        · exact w3'.1 y h1 hy
      refine List.mem_flatMap.2 ⟨x, List.mem_range.2 hok.1, ?_⟩
      rw [if_pos (show ((sysR n z ks hv).ok m x && (sysR n z ks hv).tp x) = true from by
        show (decide (okP n z ks m x) && decide (x < n)) = true
        rw [decide_eq_true hok, decide_eq_true hx.1]; rfl)]
      refine List.mem_map.2 ⟨a' ++ z :: b, (WG_mem hv hz i j _ _ (val_ad hz h hok)).2 ⟨⟨w1'.2, fun y => ?_, w3'.2⟩, a', b, rfl, by simpa using ha, hb⟩, by rw [el_d hx.1]; rfl⟩
      constructor
      · intro hy
        have := (w2 y).1 (List.mem_cons_of_mem _ hy)
        refine ⟨this.1, ?_⟩
        rw [gone_ad hok.1 this.1, el_d hx.1]; rintro (k | k)
        · exact this.2 k
        · exact w1'.1 (k ▸ hy)
      · rintro ⟨a1, a2⟩
        rw [gone_ad hok.1 a1, el_d hx.1] at a2
        rcases List.mem_cons.1 ((w2 y).2 ⟨a1, fun k => a2 (.inl k)⟩) with h1 | h1
        · exact absurd (.inr h1.symm) a2
        · exact h1
theorem not_gone0 {x : Nat} : ¬ gone n 0 x := fun h => by simp [gone] at h
theorem wd_isO (hv : VB n ks) {o : List Nat} : Wd n ks 0 o ↔ IsO n ks o := by
  constructor
  · rintro ⟨w1, w2, w3⟩
    have hP : IsP n o := by
      have : o.Perm (List.range n) := nodup_perm w1 List.nodup_range fun x => by
        rw [w2, List.mem_range]; exact ⟨fun h => h.1, fun h => ⟨h, not_gone0⟩⟩
      exact perm_isP this
    refine ⟨hP.1, hP.2.1, hP.2.2, fun p hp => ?_⟩
    have hb := hv.2.2.2 p hp
    obtain ⟨i, hi, ei, pi⟩ := plc_some (isP_mem hP hb.1)
    obtain ⟨j, hj, ej, pj⟩ := plc_some (isP_mem hP hb.2.1)
    rw [pi w1, pj w1]
    refine Classical.byContradiction fun hc => ?_
    have hne : i ≠ j := fun e => by subst e; exact hb.2.2 (ei.symm.trans ej)
    have := List.pairwise_iff_getElem.1 w3 j i hj hi (by omega)
    rw [ei, ej] at this
    exact this hp
  · intro h
    have hP := isO_P h
    refine ⟨h.2.1, fun x => ⟨fun hx => ⟨h.2.2.1 x hx, not_gone0⟩, fun hx => isP_mem hP hx.1⟩, ?_⟩
    rw [List.pairwise_iff_getElem]
    intro i j hi hj hij hk
    have := h.2.2.2 _ hk
    simp only at this
    rw [plc_get h.2.1 hi, plc_get h.2.1 hj] at this
    omega
theorem rnk_words (hv : VB n ks) (hz : z < n) {i j : Nat} (hij : i + j + 1 = n) : (((rnkQ n (nxQ n ks) z).getD i 0 : Nat) : Rat) = (sysR n z ks hv).GG i j 0 := by
  rw [rnk_getD hv.2.1 hz (by omega), ← WG_len (n := n) (z := z)]
  congr 1
  rw [List.countP_eq_length_filter]
  refine (nodup_permL (List.Pairwise.filter _ oll_nodup) (WG_nodup hv i j 0) fun o => ?_).length_eq
  rw [List.mem_filter, oll_mem hv, WG_mem hv hz i j 0 o val_0, wd_isO hv, decide_eq_true_eq]
  constructor
  · rintro ⟨hO, hp⟩
    refine ⟨hO, ?_⟩
    obtain ⟨k, hk, ek, pk⟩ := plc_some (isO_mem hO hz)
    rw [pk hO.2.1] at hp
    have : k = i := by omega
    subst this
    refine ⟨o.take k, o.drop (k + 1), ?_, ?_, ?_⟩
    · rw [← ek, List.getElem_cons_drop, List.take_append_drop]
    · rw [List.length_take]; omega
    · rw [List.length_drop, hO.1]; omega
  · rintro ⟨hO, a, b, e, ha, hb⟩
    refine ⟨hO, ?_⟩
    have hi : i < o.length := by rw [hO.1]; omega
    have : o[i] = z := by
      simp only [e]
      rw [List.getElem_append_right (by omega)]
      simp [ha]
    have h2 := plc_get hO.2.1 hi
    rw [this] at h2; exact h2
theorem rnk_even (hv : VB n ks) (ha : Acy n ks) (hz : z < n) {i : Nat} (h1 : 1 ≤ i) (h2 : i + 1 < n) : (rnkQ n (nxQ n ks) z).getD (i - 1) 0 * (rnkQ n (nxQ n ks) z).getD (i + 1) 0 ≤ (rnkQ n (nxQ n ks) z).getD i 0 * (rnkQ n (nxQ n ks) z).getD i 0 := by
  obtain ⟨i, rfl⟩ : ∃ k, i = k + 1 := ⟨i - 1, by omega⟩
  obtain ⟨j, hj⟩ : ∃ j, i + j + 3 = n := ⟨n - (i + 3), by omega⟩
  have h := stanley hv ha hz hj
  rw [← rnk_words hv hz (show i + (j + 2) + 1 = n by omega), ← rnk_words hv hz (show (i + 2) + j + 1 = n by omega), ← rnk_words hv hz (show (i + 1) + (j + 1) + 1 = n by omega)] at h
  rw [Nat.add_sub_cancel]
  have cm : ∀ a b : Nat, ((a * b : Nat) : Rat) = (a : Rat) * (b : Rat) := fun a b => by
    have : ((a * b : Nat) : Rat) = (((a * b : Nat) : Int) : Rat) := rfl
    rw [this, Int.natCast_mul, Rat.intCast_mul]; rfl
  rw [← cm, ← cm] at h
  have h3 : (((_ : Nat) : Int) : Rat) ≤ (((_ : Nat) : Int) : Rat) := h
  exact Int.ofNat_le.1 (Rat.intCast_le_intCast.1 h3)
end
end Go.Proofs.Ythmibifghihdaaa
end

section
namespace Go.Proofs.Ythmibifghihdaaa
set_option maxRecDepth 20000
open Go.AE
theorem even_a (b : Bk) (c : Option Nat) (hO : Pure Try.prog 47 [bookA b c] (.bool false)) : Pure Try.prog 11 [bookA b c] (.bool true) := by
  refine pure_of_body Try.func11 (c := body Try.f11) rfl (by simp [Try.ntmps11]) fun w0 Φ0 => ?_
  refine W_seq rfl ?_
  refine W_reg rfl ?_
  refine Rv rfl rfl rfl (U_boxF rfl rfl rfl) rfl rfl ?_
  refine Rv rfl rfl rfl (U_assign rfl) rfl rfl ?_
  refine Re rfl ?_
  refine thenQ_n ?_
  refine W_seq rfl ?_
  refine W_seq rfl ?_
  refine W_reg rfl ?_
  refine Rv rfl rfl rfl (U_load2 rfl rfl rfl rfl) rfl rfl ?_
  refine Rv rfl rfl rfl (U_call rfl rfl (hO) rfl) rfl rfl ?_
  refine Rv rfl rfl rfl (U_not rfl) rfl rfl ?_
  refine Re rfl ?_
  refine thenQ_n ?_
  refine Wcond rfl rfl (fun _ => ?_) (fun h => nomatch h)
  refine W_seq rfl ?_
  refine W_reg rfl ?_
  refine Rv rfl rfl rfl (U_call rfl rfl (works_p) rfl) rfl rfl ?_
  refine Rv rfl rfl rfl (U_assign rfl) rfl rfl ?_
  refine Re rfl ?_
  refine thenQ_n ?_
  refine W_ret rfl ?_
  refine thenQ_r ?_
  exact retL (rlT rfl rl0) rfl rfl
theorem tabE_at {n i : Nat} {ks : List (Nat × Nat)} (h : i < (tabK n ks n).length) : (tabK n ks n)[i] = rnkQ n (nxQ n ks) i := by simp [tabK]
theorem even_d (n : Nat) (ks : List (Nat × Nat)) (c : Option Nat) (hv : VB n ks) (h40 : ks.length ≤ 40) (ha : Acy n ks) (hO : Pure Try.prog 47 [bknA n ks c] (.bool true)) : Pure Try.prog 11 [bknA n ks c] (.bool true) := by
  have hv' := hv
  obtain ⟨hn1, hn, hkl, hk⟩ := hv'
  have hk2 := vb_lt hv
  have hcl := cntQ_le hv
  have htl : (tabK n ks n).length = n := tabK_len
  refine pure_of_body Try.func11 (c := body Try.f11) rfl (by simp [Try.ntmps11]) fun w0 Φ0 => ?_
  refine W_seq rfl ?_
  refine W_reg rfl ?_
  refine Rv rfl rfl rfl (U_boxF rfl rfl rfl) rfl rfl ?_
  refine Rv rfl rfl rfl (U_assign rfl) rfl rfl ?_
  refine Re rfl ?_
  refine thenQ_n ?_
  refine W_seq rfl ?_
  refine W_seq rfl ?_
  refine W_reg rfl ?_
  refine Rv rfl rfl rfl (U_load2 rfl rfl rfl rfl) rfl rfl ?_
  refine Rv rfl rfl rfl (U_call rfl rfl (hO) rfl) rfl rfl ?_
  refine Rv rfl rfl rfl (U_not rfl) rfl rfl ?_
  refine Re rfl ?_
  refine thenQ_n ?_
  refine Wcond rfl rfl (fun h => nomatch h) (fun _ => ?_)
  refine W_skip rfl ?_
  refine thenQ_n ?_
  refine W_seq rfl ?_
  refine W_reg rfl ?_
  refine Rv rfl rfl rfl (U_load2 rfl rfl rfl rfl) rfl rfl ?_
  refine Rv rfl rfl rfl (U_call rfl rfl (table_g n ks c hv h40 ha) rfl) rfl rfl ?_
  refine Rv rfl rfl rfl (U_move rfl) rfl rfl ?_
  refine Rv rfl rfl rfl (U_extract rfl rfl) rfl rfl ?_
  refine Rv rfl rfl rfl (U_extract rfl rfl) rfl rfl ?_
  refine Rv rfl rfl rfl (U_extract rfl rfl) rfl rfl ?_
  refine Rv rfl rfl rfl (U_assign rfl) rfl rfl ?_
  refine Rv rfl rfl rfl (U_assign rfl) rfl rfl ?_
  refine Rv rfl rfl rfl (U_assign rfl) rfl rfl ?_
  refine Re rfl ?_
  refine thenQ_n ?_
  refine W_seq rfl ?_
  refine W_seq rfl ?_
  refine W_reg rfl ?_
  refine Rv rfl rfl rfl (U_move rfl) rfl rfl ?_
  refine Rv rfl rfl rfl (U_not rfl) rfl rfl ?_
  refine Re rfl ?_
  refine thenQ_n ?_
  refine Wcond rfl rfl (fun h => nomatch h) (fun _ => ?_)
  refine W_skip rfl ?_
  refine thenQ_n ?_
  refine W_seq rfl ?_
  refine W_seq rfl ?_
  refine W_reg rfl ?_
  refine Rv rfl rfl rfl (U_assign rfl) rfl rfl ?_
  refine Re rfl ?_
  refine thenQ_n ?_
  refine W_block rfl ?_
  refine LoopTo (T' := [(1, .rop [i64 ((n : Nat) : Int), .ros (ks.flatMap lkN) ks.length c] 0), (3, .ros ((tabK n ks n).map natsL) ((tabK n ks n).length) none), (6, i64 ((0 : Nat) : Int))]) (H' := []) (n := 0) rfl (fun mz_ qz_ => ∃ (s : Nat), s ≤ n ∧ mz_ = n - s ∧ qz_ = ⟨[(1, .rop [i64 ((n : Nat) : Int), .ros (ks.flatMap lkN) ks.length c] 0), (3, .ros ((tabK n ks n).map natsL) ((tabK n ks n).length) none), (6, i64 ((s : Nat) : Int))], [], 0, []⟩) ⟨0, (by omega), rfl, rfl⟩ id ⟨eD rfl rfl, eD rfl rfl, eD rfl rfl, trivial⟩ trivial rfl rfl rfl rfl (fun _ _ => rfl) ?_
  rintro _ _ ⟨s, hi0_0, rfl, rfl⟩
  refine W_seq rfl ?_
  refine W_seq rfl ?_
  refine W_reg rfl ?_
  refine Rv rfl rfl rfl (U_move rfl) rfl rfl ?_
  refine Rv rfl rfl rfl (U_fieldAddrR rfl) rfl rfl ?_
  refine Rv rfl rfl rfl (U_load1 rfl rfl rfl) rfl rfl ?_
  refine Rv rfl rfl rfl (U_lss rfl rfl) rfl rfl ?_
  refine Re rfl ?_
  refine thenQ_n ?_
  refine WcondP rfl rfl (fun hc2 => ?_) (fun hc2 => ?_)
  · have hsn : s < n := by omega
    refine W_skip rfl ?_
    refine thenQ_n ?_
    refine W_seq rfl ?_
    refine W_block rfl ?_
    refine W_seq rfl ?_
    refine W_reg rfl ?_
    refine Rv rfl rfl rfl (U_assign rfl) rfl rfl ?_
    refine Re rfl ?_
    refine thenQ_n ?_
    refine W_block rfl ?_
    refine LoopTo (T' := [(1, .rop [i64 ((n : Nat) : Int), .ros (ks.flatMap lkN) ks.length c] 0), (3, .ros ((tabK n ks n).map natsL) ((tabK n ks n).length) none), (6, i64 ((s : Nat) : Int)), (7, i64 ((1 : Nat) : Int))]) (H' := []) (n := 0) rfl (fun mz_ qz_ => ∃ (i : Nat), 1 ≤ i ∧ i ≤ n + 1 ∧ mz_ = n + 1 - i ∧ qz_ = ⟨[(1, .rop [i64 ((n : Nat) : Int), .ros (ks.flatMap lkN) ks.length c] 0), (3, .ros ((tabK n ks n).map natsL) ((tabK n ks n).length) none), (6, i64 ((s : Nat) : Int)), (7, i64 ((i : Nat) : Int))], [], 0, []⟩) ⟨1, (by omega), (by omega), rfl, rfl⟩ id ⟨eD rfl rfl, eD rfl rfl, eD rfl rfl, eD rfl rfl, trivial⟩ trivial rfl rfl rfl rfl (fun _ _ => rfl) ?_
    rintro _ _ ⟨i, hi1_0, hi1_1, rfl, rfl⟩
    refine W_seq rfl ?_
    refine W_seq rfl ?_
    refine W_reg rfl ?_
    refine Rv rfl rfl rfl (U_move rfl) rfl rfl ?_
    refine Rv rfl rfl rfl (U_add rfl rfl (w64e (m := ((i + 1 : Nat) : Int)) (by omega) (by omega) (by omega))) rfl rfl ?_
    refine Rv rfl rfl rfl (U_fieldAddrR rfl) rfl rfl ?_
    refine Rv rfl rfl rfl (U_load1 rfl rfl rfl) rfl rfl ?_
    refine Rv rfl rfl rfl (U_lss rfl rfl) rfl rfl ?_
    refine Re rfl ?_
    refine thenQ_n ?_
    refine WcondP rfl rfl (fun hc3 => ?_) (fun hc3 => ?_)
    · have hin : i + 1 < n := by omega
      have hsl : s < (tabK n ks n).length := by omega
      have hli : (tabK n ks n)[s].length = n := by rw [tabE_at]; exact rnk_len
      have g0 : ((tabK n ks n)[s])[i]'(by omega) = (rnkQ n (nxQ n ks) s).getD (i) 0 := by rw [← getD_eq (by omega), tabE_at]
      have g1 : ((tabK n ks n)[s])[i - 1]'(by omega) = (rnkQ n (nxQ n ks) s).getD (i - 1) 0 := by rw [← getD_eq (by omega), tabE_at]
      have g2 : ((tabK n ks n)[s])[i + 1]'(by omega) = (rnkQ n (nxQ n ks) s).getD (i + 1) 0 := by rw [← getD_eq (by omega), tabE_at]
      have p0 : ((tabK n ks n)[s])[i]'(by omega) * ((tabK n ks n)[s])[i]'(by omega) = (rnkQ n (nxQ n ks) s).getD (i) 0 * (rnkQ n (nxQ n ks) s).getD (i) 0 := by rw [g0]
      have p1 : ((tabK n ks n)[s])[i - 1]'(by omega) * ((tabK n ks n)[s])[i + 1]'(by omega) = (rnkQ n (nxQ n ks) s).getD (i - 1) 0 * (rnkQ n (nxQ n ks) s).getD (i + 1) 0 := by rw [g1, g2]
      have hev := rnk_even hv ha hsn hi1_0 hin
      have hb0 : (rnkQ n (nxQ n ks) s).getD (i) 0 * (rnkQ n (nxQ n ks) s).getD (i) 0 ≤ 3628800 * 3628800 := Nat.mul_le_mul (Nat.le_trans (rnk_le hv hsn (by omega)) hcl) (Nat.le_trans (rnk_le hv hsn (by omega)) hcl)
      refine W_skip rfl ?_
      refine thenQ_n ?_
      refine W_seq rfl ?_
      refine W_block rfl ?_
      refine W_seq rfl ?_
      refine Wdraw rfl (by kernel_rfl) (by kernel_rfl) ?_
      refine Dv rfl rfl rfl (U_move rfl) rfl rfl ?_
      refine Dv rfl rfl rfl (U_move rfl) rfl rfl ?_
      have hx1 : s < (tabK n ks n).length := by omega
      refine Dv rfl rfl rfl (U_indexR (j := s) rfl rfl rfl hx1) rfl rfl ?_
      refine Dv rfl rfl rfl (U_load1 rfl rfl (getM hx1)) rfl rfl ?_
      refine Dv rfl rfl rfl (U_move rfl) rfl rfl ?_
      have hx2 : i < ((tabK n ks n)[s]).length := by omega
      refine Dv rfl rfl rfl (U_indexR (j := i) rfl rfl rfl hx2) rfl rfl ?_
      refine Dv rfl rfl rfl (U_load1 rfl rfl (getM hx2)) rfl rfl ?_
      refine Dv rfl rfl rfl (U_move rfl) rfl rfl ?_
      refine Dv rfl rfl rfl (U_move rfl) rfl rfl ?_
      refine Dv rfl rfl rfl (U_indexR (j := s) rfl rfl rfl hx1) rfl rfl ?_
      refine Dv rfl rfl rfl (U_load1 rfl rfl (getM hx1)) rfl rfl ?_
      refine Dv rfl rfl rfl (U_move rfl) rfl rfl ?_
      refine Dv rfl rfl rfl (U_indexR (j := i) rfl rfl rfl hx2) rfl rfl ?_
      refine Dv rfl rfl rfl (U_load1 rfl rfl (getM hx2)) rfl rfl ?_
      refine Dv rfl rfl rfl (U_mul rfl rfl (w64e (m := (((rnkQ n (nxQ n ks) s).getD (i) 0 * (rnkQ n (nxQ n ks) s).getD (i) 0 : Nat) : Int)) (by omega) (by omega) (by omega))) rfl rfl ?_
      refine Dv rfl rfl rfl (U_move rfl) rfl rfl ?_
      refine Dv rfl rfl rfl (U_move rfl) rfl rfl ?_
      refine Dv rfl rfl rfl (U_indexR (j := s) rfl rfl rfl hx1) rfl rfl ?_
      refine Dv rfl rfl rfl (U_load1 rfl rfl (getM hx1)) rfl rfl ?_
      refine Dv rfl rfl rfl (U_move rfl) rfl rfl ?_
      refine Dv rfl rfl rfl (U_sub rfl rfl (w64e (m := ((i - 1 : Nat) : Int)) (by omega) (by omega) (by omega))) rfl rfl ?_
      have hx3 : (i - 1) < ((tabK n ks n)[s]).length := by omega
      refine Dv rfl rfl rfl (U_indexR (j := (i - 1)) rfl rfl rfl hx3) rfl rfl ?_
      refine Dv rfl rfl rfl (U_load1 rfl rfl (getM hx3)) rfl rfl ?_
      refine Dv rfl rfl rfl (U_move rfl) rfl rfl ?_
      refine Dv rfl rfl rfl (U_move rfl) rfl rfl ?_
      refine Dv rfl rfl rfl (U_indexR (j := s) rfl rfl rfl hx1) rfl rfl ?_
      refine Dv rfl rfl rfl (U_load1 rfl rfl (getM hx1)) rfl rfl ?_
      refine Dv rfl rfl rfl (U_move rfl) rfl rfl ?_
      refine Dv rfl rfl rfl (U_add rfl rfl (w64e (m := ((i + 1 : Nat) : Int)) (by omega) (by omega) (by omega))) rfl rfl ?_
      have hx4 : (i + 1) < ((tabK n ks n)[s]).length := by omega
      refine Dv rfl rfl rfl (U_indexR (j := (i + 1)) rfl rfl rfl hx4) rfl rfl ?_
      refine Dv rfl rfl rfl (U_load1 rfl rfl (getM hx4)) rfl rfl ?_
      refine Dv rfl rfl rfl (U_mul rfl rfl (w64e (m := (((rnkQ n (nxQ n ks) s).getD (i - 1) 0 * (rnkQ n (nxQ n ks) s).getD (i + 1) 0 : Nat) : Int)) (by omega) (by omega) (by omega))) rfl rfl ?_
      refine Dv rfl rfl rfl (OpU.toB (U_lss rfl rfl) (decide_eq_false (by omega))) rfl rfl ?_
      refine Dr.nil rfl ?_
      refine thenQ_n ?_
      refine Wcond rfl rfl (fun h => nomatch h) (fun _ => ?_)
      refine W_skip rfl ?_
      refine blkQ_n ?_
      refine thenQ_n ?_
      refine W_reg rfl ?_
      refine Rv rfl rfl rfl (U_move rfl) rfl rfl ?_
      refine Rv rfl rfl rfl (U_add rfl rfl (w64e (m := ((i + 1 : Nat) : Int)) (by omega) (by omega) (by omega))) rfl rfl ?_
      refine Rv rfl rfl rfl (U_assign rfl) rfl rfl ?_
      refine Re rfl ?_
      refine thenQ_n ?_
      exact againTo (T' := [(1, .rop [i64 ((n : Nat) : Int), .ros (ks.flatMap lkN) ks.length c] 0), (3, .ros ((tabK n ks n).map natsL) ((tabK n ks n).length) none), (6, i64 ((s : Nat) : Int)), (7, i64 (((i + 1) : Nat) : Int))]) (H' := []) (n := 0) (n + 1 - (i + 1)) ⟨i + 1, (by omega), (by omega), rfl, rfl⟩ (by omega) id ⟨eD rfl rfl, eD rfl rfl, eD rfl rfl, eD rfl rfl, trivial⟩ trivial rfl rfl rfl rfl (fun _ _ => rfl)
    · refine W_exit rfl ?_
      refine thenQ_x ?_
      refine thenQ_x ?_
      refine blkQ_x rfl ?_
      refine blkQ_n ?_
      refine thenQ_n ?_
      refine W_reg rfl ?_
      refine Rv rfl rfl rfl (U_move rfl) rfl rfl ?_
      refine Rv rfl rfl rfl (U_add rfl rfl (w64e (m := ((s + 1 : Nat) : Int)) (by omega) (by omega) (by omega))) rfl rfl ?_
      refine Rv rfl rfl rfl (U_assign rfl) rfl rfl ?_
      refine Re rfl ?_
      refine thenQ_n ?_
      exact againTo (T' := [(1, .rop [i64 ((n : Nat) : Int), .ros (ks.flatMap lkN) ks.length c] 0), (3, .ros ((tabK n ks n).map natsL) ((tabK n ks n).length) none), (6, i64 (((s + 1) : Nat) : Int))]) (H' := []) (n := 0) (n - (s + 1)) ⟨s + 1, (by omega), rfl, rfl⟩ (by omega) id ⟨eD rfl rfl, eD rfl rfl, eD rfl rfl, trivial⟩ trivial rfl rfl rfl rfl (fun _ _ => rfl)
  · refine W_exit rfl ?_
    refine thenQ_x ?_
    refine thenQ_x ?_
    refine blkQ_x rfl ?_
    refine thenQ_n ?_
    refine W_seq rfl ?_
    refine W_reg rfl ?_
    refine Rv rfl rfl rfl (U_call rfl rfl (works_p) rfl) rfl rfl ?_
    refine Rv rfl rfl rfl (U_assign rfl) rfl rfl ?_
    refine Re rfl ?_
    refine thenQ_n ?_
    refine W_ret rfl ?_
    exact retL (rlT rfl rl0) rfl rfl
theorem rankEven_p (b : Bk) (c : Option Nat) : Pure Try.prog 11 [bookA b c] (.bool true) := by
  cases hf : fneB b with
  | false => exact even_a b c (ordered_F b c hf)
  | true =>
    have h1 := fine_T b c hf
    obtain ⟨n, ks, rfl, hv, h40⟩ := chkB_ok (fne_ok hf)
    rcases acy_or n ks with ha | ⟨g, hg⟩
    · rw [bk_eq] at h1 ⊢
      exact even_d n ks c hv h40 ha (ordered_A n ks c hv h1 ha)
    · refine even_a _ c ?_
      rw [bk_eq] at h1 ⊢
      exact ordered_Y n ks c hv h1 g hg
end Go.Proofs.Ythmibifghihdaaa
end
