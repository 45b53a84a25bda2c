import Derived.Test.YthlolelbmhfdbaaM3
set_option linter.all false
section
namespace Go.Proofs.Ythlolelbmhfdbaa
set_option maxRecDepth 20000
open Go.AE
theorem isBN_p (H Z : Nat) (ls : List (List Bx)) (c : Option Nat) (b : Bx) (hH : 1 ≤ H ∧ H ≤ 48) (hZ : 1 ≤ Z ∧ Z ≤ 24) : Pure Try.prog 69 [.agg [i64 (H : Nat), i64 (Z : Nat), landsA ls c], bxA b] (.bool (isB b (H : Int) (Z : Int))) :=
  isB_p ⟨H, Z, ls⟩ c b (by simp only; omega) (by simp only; omega)
theorem isB_iff {b : Bx} {H Z : Int} : isB b H Z = true ↔ (0 ≤ b.fr ∧ b.fr < H) ∧ (1 ≤ b.wd ∧ b.wd ≤ H) ∧ 0 ≤ b.lo ∧ b.lo < b.hi ∧ b.hi ≤ Z := by
  unfold isB; simp only [inL1, Bool.and_eq_true, decide_eq_true_eq]; omega
def boxE (s : Sk) (a : Int) (b : Bx) : Int := if opS s [a] ≠ 0 then opS s [a] else if isB b s.h s.z = true then 0 else 3
theorem boxE_ok {s : Sk} {a : Int} {b : Bx} (h : boxE s a b = 0) : ∃ (H Z : Nat) (ls : List (List Bx)) (m : Nat), s = ⟨H, Z, ls⟩ ∧ chkS ⟨H, Z, ls⟩ = 0 ∧ VS ⟨H, Z, ls⟩ H Z ∧ a = (m : Int) ∧ m < ls.length ∧ isB b H Z = true := by
  unfold boxE at h
  split at h
  · rename_i h1; exact absurd h h1
  · rename_i h1
    obtain ⟨H, Z, ls, rfl, hc, hv, hin⟩ := opS_ok (Decidable.not_not.1 h1)
    obtain ⟨m, rfl, hm⟩ := in1_ok hin
    split at h
    · rename_i h2; exact ⟨H, Z, ls, m, rfl, hc, hv, rfl, hm, h2⟩
    · cases h
theorem boxE_0 {H Z : Nat} {ls : List (List Bx)} {a : Nat} {b : Bx} (hc : chkS ⟨H, Z, ls⟩ = 0) (ha : a < ls.length) (hb : isB b H Z = true) : boxE ⟨H, Z, ls⟩ (a : Int) b = 0 := by
  rw [boxE, if_neg (by simpa using opS_a hc ha), if_pos hb]
theorem boxedE1_p (s : Sk) (c : Option Nat) (hl : s.ls.length ≤ 1000000) (hbl : ∀ l ∈ s.ls, l.length ≤ 1000000) (a : Int) (b : Bx) (hE : opS s [a] ≠ 0) : Pure Try.prog 89 [.agg [i64 s.h, i64 s.z, landsA s.ls c], i64 a, bxA b] (.tup [.nilp, i64 (opS s [a])]) := by
  refine pure_of_body Try.func89 (c := body Try.f89) J (by simp [Try.ntmps89]) fun w0 Φ0 => ?_
  refine Wsr J J ?_
  refine Rv J J J (U_boxF J J J) J J ?_
  refine Rv J J J (U_boxF J J J) J J ?_
  refine Rv J J J (U_assign J) J J ?_
  refine Rv J J J (U_assign J) J J ?_
  refine Rt J ?_
  refine Wsr J J ?_
  refine Rv J J J (U_load3 J J J J J) J J ?_
  refine Rv J J J (U_move J) J J ?_
  refine Rv J J J (U_buildSliceF (by rfl) (by decide) J J J) J J ?_
  refine Rv J J J (U_call J J (openE_p s c hl hbl [a] (some 1) (by first | assumption | omega | (simp; done) | (simp; omega)) hE) J) J J ?_
  refine Rv J J J (U_move J) J J ?_
  refine Rv J J J (U_extract J J) J J ?_
  refine Rv J J J (U_extract J J) J J ?_
  refine Rv J J J (U_assign J) J J ?_
  refine Rv J J J (U_assign J) J J ?_
  refine Rt J ?_
  refine W_seq J ?_
  refine W_block J ?_
  refine Wsr J J ?_
  refine Rv J J J (U_move J) J J ?_
  refine Rv J J J (U_neq J J) J J ?_
  refine Rv J J J (U_assign J) J J ?_
  refine Rt J ?_
  refine WcondP J J (fun hc0 => ?_) (fun hc0 => absurd (hE) hc0)
  refine Wsr J J ?_
  refine Rv J J J (U_move J) J J ?_
  refine Rv J J J (U_assign J) J J ?_
  refine Rv J J J (U_assign J) J J ?_
  refine Rt J ?_
  refine W_ret J ?_
  refine blkQ_r ?_
  refine thenQ_r ?_
  exact retL (rlT J (rlT J rl0)) J J
theorem boxedE2_p (H Z : Nat) (ls : List (List Bx)) (c : Option Nat) (hc : chkS ⟨H, Z, ls⟩ = 0) (hv : VS ⟨H, Z, ls⟩ H Z) (a : Nat) (ha : a < ls.length) (b : Bx) (hb : ¬ isB b H Z = true) : Pure Try.prog 89 [.agg [i64 (H : Nat), i64 (Z : Nat), landsA ls c], i64 (a : Nat), bxA b] (.tup [.nilp, i64 3]) := by
  have hv' := hv
  obtain ⟨_, _, hH, hZ1, hln, hlb, hbx⟩ := hv'
  simp only at hln hlb hbx
  have hZ := hZ1.2
  have hHZ : Z * H ≤ 1152 := Nat.mul_le_mul hZ hH.2
  have hHZc : H * Z = Z * H := Nat.mul_comm _ _
  refine pure_of_body Try.func89 (c := body Try.f89) J (by simp [Try.ntmps89]) fun w0 Φ0 => ?_
  refine Wsr J J ?_
  refine Rv J J J (U_boxF J J J) J J ?_
  refine Rv J J J (U_boxF J J J) J J ?_
  refine Rv J J J (U_assign J) J J ?_
  refine Rv J J J (U_assign J) J J ?_
  refine Rt J ?_
  refine Wsr J J ?_
  refine Rv J J J (U_load3 J J J J J) J J ?_
  refine Rv J J J (U_move J) J J ?_
  refine Rv J J J (U_buildSliceF (by rfl) (by decide) J J J) J J ?_
  refine Rv J J J (U_call J J (openG_p H Z ls c hc hv [((a : Nat) : Int)] (some 1) (by first | assumption | omega | (simp; done) | (simp; omega)) (by first | assumption | (rw [inL1]; simp; omega) | (simp [inL]; omega))) J) J J ?_
  refine Rv J J J (U_move J) J J ?_
  refine Rv J J J (U_extract J J) J J ?_
  refine Rv J J J (U_extract J J) J J ?_
  refine Rv J J J (U_assign J) J J ?_
  refine Rv J J J (U_assign J) J J ?_
  refine Rt J ?_
  refine W_seq J ?_
  refine W_block J ?_
  refine Wsr J J ?_
  refine Rv J J J (U_move J) J J ?_
  refine Rv J J J (U_neq J J) J J ?_
  refine Rv J J J (U_assign J) J J ?_
  refine Rt J ?_
  refine WcondP J J (fun h => absurd h (by decide)) (fun _ => ?_)
  refine Wsr J J ?_
  refine Rv J J J (U_load3 J J J J J) J J ?_
  refine Rv J J J (U_load4 J J J J J J) J J ?_
  refine Rv J J J (U_call J J (isBN_p H Z ls c b (by omega) (by omega)) J) J J ?_
  refine Rv J J J (U_not J) J J ?_
  refine Rv J J J (U_assign J) J J ?_
  refine Rt J ?_
  refine Wcond J J (fun hc1 => ?_) (fun hc1 => absurd hc1 (by simpa using hb))
  refine Wsr J J ?_
  refine Rv J J J (U_assign J) J J ?_
  refine Rv J J J (U_assign J) J J ?_
  refine Rt J ?_
  refine W_ret J ?_
  refine blkQ_r ?_
  refine thenQ_r ?_
  exact retL (rlT J (rlT J rl0)) J J
theorem boxedG_p (H Z : Nat) (ls : List (List Bx)) (c : Option Nat) (hc : chkS ⟨H, Z, ls⟩ = 0) (hv : VS ⟨H, Z, ls⟩ H Z) (a : Nat) (ha : a < ls.length) (b : Bx) (hb : isB b H Z = true) : Pure Try.prog 89 [.agg [i64 (H : Nat), i64 (Z : Nat), landsA ls c], i64 (a : Nat), bxA b] (.tup [.rop [i64 (H : Nat), i64 (Z : Nat), landsA ls c, .ros ((chQ Z H ls).map rowsL) (chQ Z H ls).length none] 0, i64 0]) := by
  have hv' := hv
  obtain ⟨_, _, hH, hZ1, hln, hlb, hbx⟩ := hv'
  simp only at hln hlb hbx
  have hZ := hZ1.2
  have hHZ : Z * H ≤ 1152 := Nat.mul_le_mul hZ hH.2
  have hHZc : H * Z = Z * H := Nat.mul_comm _ _
  refine pure_of_body Try.func89 (c := body Try.f89) J (by simp [Try.ntmps89]) fun w0 Φ0 => ?_
  refine Wsr J J ?_
  refine Rv J J J (U_boxF J J J) J J ?_
  refine Rv J J J (U_boxF J J J) J J ?_
  refine Rv J J J (U_assign J) J J ?_
  refine Rv J J J (U_assign J) J J ?_
  refine Rt J ?_
  refine Wsr J J ?_
  refine Rv J J J (U_load3 J J J J J) J J ?_
  refine Rv J J J (U_move J) J J ?_
  refine Rv J J J (U_buildSliceF (by rfl) (by decide) J J J) J J ?_
  refine Rv J J J (U_call J J (openG_p H Z ls c hc hv [((a : Nat) : Int)] (some 1) (by first | assumption | omega | (simp; done) | (simp; omega)) (by first | assumption | (rw [inL1]; simp; omega) | (simp [inL]; omega))) J) J J ?_
  refine Rv J J J (U_move J) J J ?_
  refine Rv J J J (U_extract J J) J J ?_
  refine Rv J J J (U_extract J J) J J ?_
  refine Rv J J J (U_assign J) J J ?_
  refine Rv J J J (U_assign J) J J ?_
  refine Rt J ?_
  refine W_seq J ?_
  refine W_block J ?_
  refine Wsr J J ?_
  refine Rv J J J (U_move J) J J ?_
  refine Rv J J J (U_neq J J) J J ?_
  refine Rv J J J (U_assign J) J J ?_
  refine Rt J ?_
  refine WcondP J J (fun h => absurd h (by decide)) (fun _ => ?_)
  refine Wsr J J ?_
  refine Rv J J J (U_load3 J J J J J) J J ?_
  refine Rv J J J (U_load4 J J J J J J) J J ?_
  refine Rv J J J (U_call J J (isBN_p H Z ls c b (by omega) (by omega)) J) J J ?_
  refine Rv J J J (U_not J) J J ?_
  refine Rv J J J (U_assign J) J J ?_
  refine Rt J ?_
  refine Wcond J J (fun hc1 => absurd hc1 (by simpa using hb)) (fun hc1 => ?_)
  refine W_skip J ?_
  refine blkQ_n ?_
  refine thenQ_n ?_
  refine Wsr J J ?_
  refine Rv J J J (U_move J) J J ?_
  refine Rv J J J (U_assign J) J J ?_
  refine Rv J J J (U_assign J) J J ?_
  refine Rt J ?_
  refine W_ret J ?_
  exact retL (rlT J (rlT J rl0)) J J
theorem boxedE_p (s : Sk) (c : Option Nat) (hl : s.ls.length ≤ 1000000) (hbl : ∀ l ∈ s.ls, l.length ≤ 1000000) (a : Int) (b : Bx) (hE : boxE s a b ≠ 0) : Pure Try.prog 89 [.agg [i64 s.h, i64 s.z, landsA s.ls c], i64 a, bxA b] (.tup [.nilp, i64 (boxE s a b)]) := by
  by_cases h1 : opS s [a] ≠ 0
  · rw [show boxE s a b = opS s [a] from if_pos h1]; exact boxedE1_p s c hl hbl a b h1
  · obtain ⟨H, Z, ls, rfl, hc, hv, hin⟩ := opS_ok (Decidable.not_not.1 h1)
    obtain ⟨a, rfl, ha⟩ := in1_ok hin
    by_cases h2 : isB b H Z = true
    · exact absurd (boxE_0 hc ha h2) hE
    · have e : boxE ⟨H, Z, ls⟩ (a : Int) b = 3 := by rw [boxE, if_neg h1, if_neg h2]
      rw [e]; exact boxedE2_p H Z ls c hc hv a ha b h2
def bxN (H : Nat) (b : Bx) (k : Nat) : List Nat := (List.range k).filter fun i => inN b H (i / H) (i % H)
def inK (H : Nat) (l : List Bx) (b : Bx) (k : Nat) : Nat := ((bxN H b k).map fun i => bitQ l H (i / H) (i % H)).sum
theorem bxN_t {H k : Nat} {b : Bx} (h : inN b H (k / H) (k % H) = true) : bxN H b (k + 1) = bxN H b k ++ [k] := by
  rw [bxN, List.range_succ, List.filter_append, List.filter_cons_of_pos (p := fun i => inN b H (i / H) (i % H)) h]; rfl
theorem bxN_f {H k : Nat} {b : Bx} (h : ¬ inN b H (k / H) (k % H) = true) : bxN H b (k + 1) = bxN H b k := by
  rw [bxN, List.range_succ, List.filter_append, List.filter_cons_of_neg (p := fun i => inN b H (i / H) (i % H)) h]; exact List.append_nil _
theorem inK_t {H k : Nat} {b : Bx} {l : List Bx} (h : inN b H (k / H) (k % H) = true) : inK H l b (k + 1) = inK H l b k + bitQ l H (k / H) (k % H) := by
  rw [inK, bxN_t h, List.map_append, List.sum_append]; simp [inK]
theorem inK_f {H k : Nat} {b : Bx} {l : List Bx} (h : ¬ inN b H (k / H) (k % H) = true) : inK H l b (k + 1) = inK H l b k := by rw [inK, bxN_f h]; rfl
theorem bxN_len {H k : Nat} {b : Bx} : (bxN H b k).length ≤ k := Nat.le_trans (List.length_filter_le _ _) (by simp)
theorem inK_le {H k : Nat} {b : Bx} {l : List Bx} : inK H l b k ≤ (bxN H b k).length := by
  have := sum_le (f := fun i => bitQ l H (i / H) (i % H)) (m := 1) (l := bxN H b k) fun _ _ => bitQ_le
  unfold inK; omega
def kinQ (Z H : Nat) (l : List Bx) (b : Bx) : Nat := if inK H l b (Z * H) = 0 then 0 else if inK H l b (Z * H) = (bxN H b (Z * H)).length then 2 else 1
def kinR (s : Sk) (a : Int) (b : Bx) : Int := if boxE s a b = 0 then (kinQ s.z.toNat s.h.toNat (lndQ s.ls a) b : Nat) else 0
theorem kinR_g {H Z : Nat} {ls : List (List Bx)} {a : Nat} {b : Bx} (hc : chkS ⟨H, Z, ls⟩ = 0) (ha : a < ls.length) (hb : isB b H Z = true) : kinR ⟨H, Z, ls⟩ (a : Int) b = (kinQ Z H ls[a] b : Nat) := by
  rw [kinR, if_pos (boxE_0 hc ha hb), lnd_at ha]; rfl
theorem kinR_e {s : Sk} {a : Int} {b : Bx} (h : boxE s a b ≠ 0) : kinR s a b = 0 := if_neg h
theorem kin_e (s : Sk) (c : Option Nat) (hl : s.ls.length ≤ 1000000) (hbl : ∀ l ∈ s.ls, l.length ≤ 1000000) (a : Int) (b : Bx) (hE : boxE s a b ≠ 0) : Pure Try.prog 39 [.agg [i64 s.h, i64 s.z, landsA s.ls c], i64 a, bxA b] (.tup [i64 0, i64 (boxE s a b)]) := by
  refine pure_of_body Try.func39 (c := body Try.f39) J (by simp [Try.ntmps39]) fun w0 Φ0 => ?_
  refine Wsr J J ?_
  refine Rv J J J (U_boxF J J J) J J ?_
  refine Rv J J J (U_boxF J J J) J J ?_
  refine Rv J J J (U_boxF J J J) J J ?_
  refine Rv J J J (U_assign J) J J ?_
  refine Rv J J J (U_assign J) J J ?_
  refine Rt J ?_
  refine Wsr J J ?_
  refine Rv J J J (U_load3 J J J J J) J J ?_
  refine Rv J J J (U_load1 J J J) J J ?_
  refine Rv J J J (U_load4 J J J J J J) J J ?_
  refine Rv J J J (U_call J J (boxedE_p s c hl hbl a b hE) J) J J ?_
  refine Rv J J J (U_move J) J J ?_
  refine Rv J J J (U_extract J J) J J ?_
  refine Rv J J J (U_extract J J) J J ?_
  refine Ra J J J (U_alloc) J J J ?_
  refine Rn J J J (U_store1 J J J J) J ?_
  refine Rv J J J (U_assign J) J J ?_
  refine Rt J ?_
  refine WfrN 0 J J (T' := [(4, .rop [i64 a] 0), (5, .rop [i64 b.fr, i64 b.wd, i64 b.lo, i64 b.hi] 0), (8, .rop [.nilp] 0), (9, i64 (boxE s a b))]) (H' := []) ⟨⟨_, J, J⟩, ⟨_, J, J⟩, ⟨_, J, J⟩, ⟨_, J, J⟩, trivial⟩ trivial ?_
  refine W_seq J ?_
  refine Wsr J J ?_
  refine Rv J J J (U_move J) J J ?_
  refine Rv J J J (U_neq J J) J J ?_
  refine Rt J ?_
  refine WcondP J J (fun hc0 => ?_) (fun hc0 => absurd (hE) hc0)
  refine Wsr J J ?_
  refine Rv J J J (U_move J) J J ?_
  refine Rv J J J (U_assign J) J J ?_
  refine Rv J J J (U_assign J) J J ?_
  refine Rt J ?_
  refine W_ret J ?_
  refine thenQ_r ?_
  exact retL (rlT J (rlT J rl0)) J J
theorem kin_g (H Z : Nat) (ls : List (List Bx)) (c : Option Nat) (hc : chkS ⟨H, Z, ls⟩ = 0) (hv : VS ⟨H, Z, ls⟩ H Z) (a : Nat) (ha : a < ls.length) (b : Bx) (hb : isB b H Z = true) : Pure Try.prog 39 [.agg [i64 (H : Nat), i64 (Z : Nat), landsA ls c], i64 (a : Nat), bxA b] (.tup [i64 ((kinQ Z H ls[a] b : Nat) : Int), i64 0]) := by
  have hv' := hv
  obtain ⟨_, _, hH, hZ1, hln, hlb, hbx⟩ := hv'
  simp only at hln hlb hbx
  have hZ := hZ1.2
  have hHZ : Z * H ≤ 1152 := Nat.mul_le_mul hZ hH.2
  have hHZc : H * Z = Z * H := Nat.mul_comm _ _
  have hbi := isB_iff.1 hb
  refine pure_of_body Try.func39 (c := body Try.f39) J (by simp [Try.ntmps39]) fun w0 Φ0 => ?_
  refine Wsr J J ?_
  refine Rv J J J (U_boxF J J J) J J ?_
  refine Rv J J J (U_boxF J J J) J J ?_
  refine Rv J J J (U_boxF J J J) J J ?_
  refine Rv J J J (U_assign J) J J ?_
  refine Rv J J J (U_assign J) J J ?_
  refine Rt J ?_
  refine Wsr J J ?_
  refine Rv J J J (U_load3 J J J J J) J J ?_
  refine Rv J J J (U_load1 J J J) J J ?_
  refine Rv J J J (U_load4 J J J J J J) J J ?_
  refine Rv J J J (U_call J J (boxedG_p H Z ls c hc hv a (by omega) b hb) J) J J ?_
  refine Rv J J J (U_move J) J J ?_
  refine Rv J J J (U_extract J J) J J ?_
  refine Rv J J J (U_extract J J) J J ?_
  refine Ra J J J (U_alloc) J J J ?_
  refine Rn J J J (U_store1 J J J J) J ?_
  refine Rv J J J (U_assign J) J J ?_
  refine Rt J ?_
  refine WfrN 0 J J (T' := [(4, .rop [i64 ((a : Nat) : Int)] 0), (5, .rop [i64 b.fr, i64 b.wd, i64 b.lo, i64 b.hi] 0), (8, .rop [.rop [i64 ((H : Nat) : Int), i64 ((Z : Nat) : Int), .ros (ls.map boxesL) ls.length c, .ros ((chQ Z H ls).map rowsL) ((chQ Z H ls).length) none] 0] 0), (9, i64 0)]) (H' := []) ⟨⟨_, J, J⟩, ⟨_, J, J⟩, ⟨_, J, J⟩, ⟨_, J, J⟩, trivial⟩ trivial ?_
  refine W_seq J ?_
  refine Wsr J J ?_
  refine Rv J J J (U_move J) J J ?_
  refine Rv J J J (U_neq J J) J J ?_
  refine Rt J ?_
  refine WcondP J J (fun h => absurd h (by decide)) (fun _ => ?_)
  refine W_skip J ?_
  refine thenQ_n ?_
  refine Wsr J J ?_
  refine Ra J J J (U_alloc) J J J ?_
  refine Ra J J J (U_alloc) J J J ?_
  refine Rn J J J (U_store1 J J J J) J ?_
  refine Rn J J J (U_store1 J J J J) J ?_
  refine Rt J ?_
  refine W_seq J ?_
  refine Wsr J J ?_
  refine Rv J J J (U_load1 J J J) J J ?_
  refine Rv J J J (U_call J J (places_p H Z ls c) J) J J ?_
  refine Rt J ?_
  refine W_block J ?_
  refine W_rangeI (T' := [(4, .rop [i64 ((a : Nat) : Int)] 0), (5, .rop [i64 b.fr, i64 b.wd, i64 b.lo, i64 b.hi] 0), (8, .rop [.rop [i64 ((H : Nat) : Int), i64 ((Z : Nat) : Int), .ros (ls.map boxesL) ls.length c, .ros ((chQ Z H ls).map rowsL) ((chQ Z H ls).length) none] 0] 0), (10, .ptr 1 0), (11, .ptr 2 0), (24, .fn 101 [] [.rop [.rop [i64 ((H : Nat) : Int), i64 ((Z : Nat) : Int), .ros (ls.map boxesL) ls.length c, .ros ((chQ Z H ls).map rowsL) ((chQ Z H ls).length) none] 0] 0])]) (n := 3) J J (places_it H Z ls c hH hZ) (fun i => [(1, some (.cells [i64 ((inK H ls[a] b i : Nat) : Int)] 3)), (2, some (.cells [i64 (((bxN H b i).length : Nat) : Int)] 3))]) ⟨eD J J, eD J J, eD J J, e_ J J, e_ J J, eD J J, trivial⟩ ⟨rD J J J, rD J J J, trivial⟩ J J J J J (fun i => ⟨rD J J J, rD J J J, trivial⟩) ?_ ?_
  · intro i x_ hx_ C_ hC_ N_ hN_
    obtain ⟨hi_, rfl⟩ := mapAt hx_
    have hpz := plcQ_in (List.getElem_mem hi_)
    have hil : i < (plcQ Z H).length := hi_
    have hilen := plcQ_len (Z := Z) (H := H)
    have hZH : Z * H ≤ 1152 := Nat.mul_le_mul hZ hH.2
    have hpe : i / H = (plcQ Z H)[i].1 ∧ i % H = (plcQ Z H)[i].2 := by rw [plcQ_at hi_]; exact ⟨rfl, rfl⟩
    have hlb1 := bxN_len (H := H) (b := b) (k := i)
    have hlb2 := inK_le (H := H) (b := b) (l := ls[a]) (k := i)
    have hbq := bitQ_le (l := ls[a]) (H := H) (z := (plcQ Z H)[i].1) (h := (plcQ Z H)[i].2)
    obtain ⟨_, w0_, Wr_, Φ0_, ro_, nt_, k0_, ρ0_⟩ := C_
    have hC2_ : _ = Try.prog := hC_
    subst hC2_
    intro ρ_ Φ_ w_ lc_
    refine W_reg J ?_
    refine Ra J J J (U_alloc) J J J ?_
    refine Rn J J J (U_storeAll J J J J J J) J ?_
    refine Re J ?_
    refine ⟨rfl, ?_⟩
    refine W_block J ?_
    refine Wsr J J ?_
    refine Rv J J J (U_load1 J J J) J J ?_
    refine Rv J J J (U_load4 J J J J J J) J J ?_
    refine Rv J J J (U_load2 J J J J) J J ?_
    refine Rv J J J (U_call J J (inBox_p H Z ls c b (((plcQ Z H)[i]).1) (((plcQ Z H)[i]).2) (by omega) (by omega) (by omega)) J) J J ?_
    refine Rt J ?_
    refine Wcond J J (fun hc1 => ?_) (fun hc1 => ?_)
    · have hin : inN b H (i / H) (i % H) = true := by rw [plcQ_at hi_] at hc1; exact hc1
      refine W_seq J ?_
      refine Wdraw J (by kernel_rfl) (by kernel_rfl) ?_
      refine Dv J J J (U_load1 J J J) J J ?_
      refine Dv J J J (U_load1 J J J) J J ?_
      refine Dv J J J (U_load1 J J J) J J ?_
      refine Dv J J J (U_load2 J J J J) J J ?_
      refine Dv J J J (U_call J J (in_p H Z ls c a (((plcQ Z H)[i]).1) (((plcQ Z H)[i]).2) (by omega) (by omega) (by omega)) J) J J ?_
      refine Dv J J J (U_add J J (w64e (m := ((inK H ls[a] b i + bitQ ls[a] H (((plcQ Z H)[i]).1) (((plcQ Z H)[i]).2) : Nat) : Int)) (by omega) (by omega) (by omega))) J J ?_
      refine Dn_ J J J (U_store1 J J J J) J J ?_
      refine Dr.nil J ?_
      refine thenQ_n ?_
      refine W_reg J ?_
      refine Rv J J J (U_load1 J J J) J J ?_
      refine Rv J J J (U_add J J (w64e (m := (((bxN H b i).length + 1 : Nat) : Int)) (by omega) (by omega) (by omega))) J J ?_
      refine Rn J J J (U_store1 J J J J) J ?_
      refine Re J ?_
      refine blkQ_n ?_
      refine ⟨rfl, ?_⟩
      exact hN_ _ _ ⟨(rD rfl (by first | (rw [inK_t hin, hpe.1, hpe.2]; rfl) | (rw [inK_f hin]; rfl)) rfl), (rD rfl (by first | (rw [bxN_t hin, List.length_append]; rfl) | (rw [bxN_f hin]; rfl)) rfl), trivial⟩
    · have hc1' := Bool.eq_false_iff.1 hc1
      have hin : ¬ inN b H (i / H) (i % H) = true := by rw [plcQ_at hi_] at hc1; simpa using hc1
      refine W_skip J ?_
      refine blkQ_n ?_
      refine ⟨rfl, ?_⟩
      exact hN_ _ _ ⟨(rD rfl (by first | (rw [inK_t hin, hpe.1, hpe.2]; rfl) | (rw [inK_f hin]; rfl)) rfl), (rD rfl (by first | (rw [bxN_t hin, List.length_append]; rfl) | (rw [bxN_f hin]; rfl)) rfl), trivial⟩
  rw [List.length_map]
  refine blkQ_n ?_
  refine thenQ_n ?_
  refine W_seq J ?_
  refine Wsr J J ?_
  refine Rv J J J (U_load1 J J J) J J ?_
  refine Rt J ?_
  refine W_block J ?_
  refine Wsr J J ?_
  refine Rv J J J (U_eql J J) J J ?_
  refine Rv J J J (U_assign J) J J ?_
  refine Rt J ?_
  refine WcondP J J (fun hc2 => ?_) (fun hc2 => ?_)
  · rw [plcQ_len] at hc2
    have hkq : kinQ Z H ls[a] b = 0 := by rw [kinQ, if_pos (by omega)]
    refine Wsr J J ?_
    refine Rv J J J (U_assign J) J J ?_
    refine Rv J J J (U_assign J) J J ?_
    refine Rt J ?_
    refine W_ret J ?_
    refine blkQ_r ?_
    refine thenQ_r ?_
    exact retL (rlT J (rlT J rl0)) (by first | rfl | (simp only [packA]; rw [hkq]; first | done | rfl)) J
  · rw [plcQ_len] at hc2
    refine Wsr J J ?_
    refine Rv J J J (U_load1 J J J) J J ?_
    refine Rv J J J (U_eql J J) J J ?_
    refine Rv J J J (U_assign J) J J ?_
    refine Rt J ?_
    refine WcondP J J (fun hc3 => ?_) (fun hc3 => ?_)
    · rw [plcQ_len] at hc3
      have hkq : kinQ Z H ls[a] b = 2 := by rw [kinQ, if_neg (by omega), if_pos (by omega)]
      refine Wsr J J ?_
      refine Rv J J J (U_assign J) J J ?_
      refine Rv J J J (U_assign J) J J ?_
      refine Rt J ?_
      refine W_ret J ?_
      refine blkQ_r ?_
      refine thenQ_r ?_
      exact retL (rlT J (rlT J rl0)) (by first | rfl | (simp only [packA]; rw [hkq]; first | done | rfl)) J
    · rw [plcQ_len] at hc3
      have hkq : kinQ Z H ls[a] b = 1 := by rw [kinQ, if_neg (by omega), if_neg (by omega)]
      refine W_skip J ?_
      refine blkQ_n ?_
      refine thenQ_n ?_
      refine Wsr J J ?_
      refine Rv J J J (U_assign J) J J ?_
      refine Rv J J J (U_assign J) J J ?_
      refine Rt J ?_
      refine W_ret J ?_
      exact retL (rlT J (rlT J rl0)) (by first | rfl | (simp only [packA]; rw [hkq]; first | done | rfl)) J
theorem kinA_p (s : Sk) (c : Option Nat) (hl : s.ls.length ≤ 1000000) (hbl : ∀ l ∈ s.ls, l.length ≤ 1000000) (a : Int) (b : Bx) : Pure Try.prog 39 [.agg [i64 s.h, i64 s.z, landsA s.ls c], i64 a, bxA b] (.tup [i64 (kinR s a b), i64 (boxE s a b)]) := by
  by_cases hE : boxE s a b = 0
  · obtain ⟨H, Z, ls, a, rfl, hc, hv, rfl, ha, hb⟩ := boxE_ok hE
    rw [kinR_g hc ha hb, hE]
    exact kin_g H Z ls c hc hv a ha b hb
  · rw [kinR_e hE]
    exact kin_e s c hl hbl a b hE
end Go.Proofs.Ythlolelbmhfdbaa
end

section
namespace Go.Proofs.Ythlolelbmhfdbaa
set_option maxRecDepth 20000
open Go.AE
theorem pcZ0 {l : List (Nat × Nat)} {k : Nat} (h : k < l.length) : (l.flatMap plcC)[0 + k * 2]? = some (i64 ((l[k].1 : Nat) : Int)) := by rw [Nat.zero_add]; exact pcG0 h
theorem pcZ1 {l : List (Nat × Nat)} {k : Nat} (h : k < l.length) : (l.flatMap plcC)[0 + k * 2 + 1]? = some (i64 ((l[k].2 : Nat) : Int)) := by rw [Nat.zero_add]; exact pcG1 h
section
variable (Z H : Nat) (la : List Bx)
def addQ (S : List (Nat × Nat)) (q : Nat × Nat) : List (Nat × Nat) := if inL' la H q.1 q.2 = true ∧ S.contains q = false then S ++ [q] else S
def expQ (S : List (Nat × Nat)) (p : Nat × Nat) : List (Nat × Nat) := (bsP Z H p.1 p.2).foldl (addQ H la) S
def runQ : Nat → List (Nat × Nat) → Nat → List (Nat × Nat)
  | 0, S, _ => S
  | f + 1, S, k => match S[k]? with
    | none => S
    | some p => runQ f (expQ Z H la S p) (k + 1)
def pieF (s : List (Nat × Nat) × Nat) (p : Nat × Nat) : List (Nat × Nat) × Nat := if inL' la H p.1 p.2 = true ∧ s.1.contains p = false then (runQ Z H la (Z * H) (s.1 ++ [p]) s.1.length, s.2 + 1) else s
def pieK (i : Nat) : List (Nat × Nat) × Nat := ((plcQ Z H).take i).foldl (pieF Z H la) ([], 0)
def pieQ : Nat := (pieK Z H la (plcQ Z H).length).2
structure PcOk (S : List (Nat × Nat)) : Prop where
  nd : S.Nodup
  pl : ∀ p ∈ S, p.1 < Z ∧ p.2 < H
end
section
variable {Z H : Nat} {la : List Bx} {S : List (Nat × Nat)}
theorem PcOk.nil : PcOk Z H [] := ⟨by simp, fun _ h => absurd h List.not_mem_nil⟩
theorem PcOk.len (h : PcOk Z H S) : S.length ≤ Z * H := by
  rw [← plcQ_len]
  exact h.nd.length_le_of_subset fun p hp => plc_mem (h.pl p hp).1 (h.pl p hp).2
theorem PcOk.snoc (h : PcOk Z H S) {q : Nat × Nat} (hq : q.1 < Z ∧ q.2 < H) (hn : S.contains q = false) : PcOk Z H (S ++ [q]) := by
  have hn' : q ∉ S := by simpa using hn
  refine ⟨?_, fun p hp => ?_⟩
  · rw [List.nodup_append]
    exact ⟨h.nd, by simp, fun a ha b hb => by rw [List.mem_singleton.1 hb]; rintro rfl; exact hn' ha⟩
  · rcases List.mem_append.1 hp with hp | hp
    · exact h.pl p hp
    · rw [List.mem_singleton.1 hp]; exact hq
theorem PcOk.add (h : PcOk Z H S) {q : Nat × Nat} (hq : q.1 < Z ∧ q.2 < H) : PcOk Z H (addQ H la S q) := by
  unfold addQ; split
  · rename_i h1; exact h.snoc hq h1.2
  · exact h
theorem PcOk.fold (h : PcOk Z H S) : ∀ {l : List (Nat × Nat)}, (∀ q ∈ l, q.1 < Z ∧ q.2 < H) → PcOk Z H (l.foldl (addQ H la) S) := fun {l} => by
  induction l generalizing S with
  | nil => intro _; exact h
  | cons a l ih => intro h2; exact ih (h.add (h2 a (by simp))) fun q hq => h2 q (List.mem_cons_of_mem _ hq)
theorem PcOk.exp (h : PcOk Z H S) {p : Nat × Nat} (hp : p.1 < Z ∧ p.2 < H) : PcOk Z H (expQ Z H la S p) := h.fold (bsP_in hp.1 hp.2)
theorem PcOk.run : ∀ (f : Nat) {S : List (Nat × Nat)} (k : Nat), PcOk Z H S → PcOk Z H (runQ Z H la f S k)
  | 0, _, _, h => h
  | f + 1, S, k, h => by
    unfold runQ; split
    · exact h
    · rename_i p hp; exact PcOk.run f (k + 1) (h.exp (h.pl p (List.mem_of_getElem? hp)))
theorem PcOk.pie (h : PcOk Z H S) {n : Nat} {p : Nat × Nat} (hp : p.1 < Z ∧ p.2 < H) : PcOk Z H (pieF Z H la (S, n) p).1 := by
  unfold pieF; split
  · rename_i h1; exact PcOk.run _ _ (h.snoc hp h1.2)
  · exact h
theorem pieK_succ {i : Nat} (hi : i < (plcQ Z H).length) : pieK Z H la (i + 1) = pieF Z H la (pieK Z H la i) (plcQ Z H)[i] := by
  rw [pieK, List.take_succ_eq_append_getElem hi, List.foldl_append]; rfl
theorem pieK_ok : ∀ i, PcOk Z H (pieK Z H la i).1
  | 0 => PcOk.nil
  | i + 1 => by
    by_cases hi : i < (plcQ Z H).length
    · rw [pieK_succ hi]; exact (pieK_ok i).pie (n := (pieK Z H la i).2) (plcQ_in (List.getElem_mem hi))
    · have := pieK_ok i
      unfold pieK at this ⊢
      rw [List.take_of_length_le (by omega)] at this
      rw [List.take_of_length_le (by omega)]; exact this
theorem pieK_le : ∀ i, (pieK Z H la i).2 ≤ i
  | 0 => Nat.le_refl _
  | i + 1 => by
    have ih := pieK_le i
    by_cases hi : i < (plcQ Z H).length
    · rw [pieK_succ hi]; unfold pieF; split
      · simp only; omega
      · omega
    · unfold pieK at ih ⊢
      rw [List.take_of_length_le (by omega)] at ih
      rw [List.take_of_length_le (by omega)]; omega
theorem pieK_t {i : Nat} (hi : i < (plcQ Z H).length) (h : inL' la H (plcQ Z H)[i].1 (plcQ Z H)[i].2 = true ∧ (pieK Z H la i).1.contains (plcQ Z H)[i] = false) : pieK Z H la (i + 1) = (runQ Z H la (Z * H) ((pieK Z H la i).1 ++ [(plcQ Z H)[i]]) (pieK Z H la i).1.length, (pieK Z H la i).2 + 1) := by
  rw [pieK_succ hi, pieF, if_pos h]
theorem pieK_f {i : Nat} (hi : i < (plcQ Z H).length) (h : ¬ (inL' la H (plcQ Z H)[i].1 (plcQ Z H)[i].2 = true ∧ (pieK Z H la i).1.contains (plcQ Z H)[i] = false)) : pieK Z H la (i + 1) = pieK Z H la i := by
  rw [pieK_succ hi, pieF, if_neg h]
theorem runQ_step {f k : Nat} (hk : k < S.length) : runQ Z H la (f + 1) S k = runQ Z H la f (expQ Z H la S S[k]) (k + 1) := by
  rw [runQ, List.getElem?_eq_getElem hk]
theorem runQ_end {f k : Nat} (hk : S.length ≤ k) : runQ Z H la f S k = S := by
  cases f with
  | zero => rfl
  | succ f => rw [runQ, List.getElem?_eq_none hk]
theorem fold_snoc {α β : Type} {f : β → α → β} {b : β} {l : List α} {k : Nat} (hk : k < l.length) : (l.take (k + 1)).foldl f b = f ((l.take k).foldl f b) l[k] := by
  rw [List.take_succ_eq_append_getElem hk, List.foldl_append]; rfl
theorem setP_con {P : Nat → Nat → Bool} {S : List (Nat × Nat)} (h : ∀ z h, P z h = S.contains (z, h)) (p : Nat × Nat) : ∀ z h, setP P p.1 p.2 z h = (S ++ [p]).contains (z, h) := fun z x => by
  unfold setP
  rw [h, Bool.eq_iff_iff]
  obtain ⟨a, b⟩ := p
  simp [Prod.ext_iff]
theorem row_seen {Z z h : Nat} {P : Nat → Nat → Bool} {S : List (Nat × Nat)} (e : ∀ z h, P z h = S.contains (z, h)) (hz : z < (rowsP Z P).length) : (rowsP Z P)[z] h = if S.contains (z, h) = true then 1 else 0 := by
  rw [rowsP_get]; show (if P z h = true then 1 else 0) = _; rw [e]
theorem bitQ_if {l : List Bx} {H z x : Nat} : (bitQ l H z x = 1 ∧ inL' l H z x = true) ∨ (bitQ l H z x = 0 ∧ ¬ inL' l H z x = true) := by
  unfold bitQ; split
  · rename_i h; exact .inl ⟨rfl, h⟩
  · rename_i h; exact .inr ⟨rfl, h⟩
section
variable {l : List Bx} {H Z z x : Nat} {P : Nat → Nat → Bool} {S : List (Nat × Nat)}
theorem seeT (e : ∀ z h, P z h = S.contains (z, h)) (hz : z < (rowsP Z P).length) (h : (decide (((bitQ l H z x : Nat) : Int) = 0) || decide (0 < (rowsP Z P)[z] x)) = true) : ¬ (inL' l H z x = true ∧ S.contains (z, x) = false) := by
  rw [row_seen e hz] at h
  rintro ⟨h1, h2⟩
  rcases bitQ_if (l := l) (H := H) (z := z) (x := x) with ⟨h3, _⟩ | ⟨_, h3⟩
  · rw [h2, h3] at h; simp at h
  · exact h3 h1
theorem seeF (e : ∀ z h, P z h = S.contains (z, h)) (hz : z < (rowsP Z P).length) (h : (decide (((bitQ l H z x : Nat) : Int) = 0) || decide (0 < (rowsP Z P)[z] x)) = false) : inL' l H z x = true ∧ S.contains (z, x) = false := by
  rw [row_seen e hz, Bool.or_eq_false_iff, decide_eq_false_iff_not, decide_eq_false_iff_not] at h
  refine ⟨?_, ?_⟩
  · rcases bitQ_if (l := l) (H := H) (z := z) (x := x) with ⟨_, h3⟩ | ⟨h3, _⟩
    · exact h3
    · exact absurd (by rw [h3]; rfl) h.1
  · cases h4 : S.contains (z, x) with
    | false => rfl
    | true => rw [h4] at h; exact absurd (by decide) h.2
theorem seeN (e : ∀ z h, P z h = S.contains (z, h)) (hz : z < (rowsP Z P).length) (h : (decide (0 < ((bitQ l H z x : Nat) : Int)) && decide ((rowsP Z P)[z] x = 0)) = true) : inL' l H z x = true ∧ S.contains (z, x) = false := by
  rw [Bool.and_eq_true, decide_eq_true_eq, decide_eq_true_eq] at h
  exact seeF e hz (by rw [Bool.or_eq_false_iff, decide_eq_false_iff_not, decide_eq_false_iff_not]; omega)
theorem seeM (e : ∀ z h, P z h = S.contains (z, h)) (hz : z < (rowsP Z P).length) (h : (decide (0 < ((bitQ l H z x : Nat) : Int)) && decide ((rowsP Z P)[z] x = 0)) = false) : ¬ (inL' l H z x = true ∧ S.contains (z, x) = false) := by
  rintro ⟨h1, h2⟩
  rw [row_seen e hz, h2] at h
  rcases bitQ_if (l := l) (H := H) (z := z) (x := x) with ⟨h3, _⟩ | ⟨_, h3⟩
  · rw [h3] at h; simp at h
  · exact h3 h1
theorem addQ_le {la : List Bx} {q : Nat × Nat} : S.length ≤ (addQ H la S q).length := by unfold addQ; split <;> simp
end
end
theorem pieces_p (H Z : Nat) (ls : List (List Bx)) (c : Option Nat) (a : Nat) (ha : a < ls.length) (hH : 1 ≤ H ∧ H ≤ 48) (hZ : Z ≤ 24) : Pure Try.prog 78 [.rop [i64 (H : Nat), i64 (Z : Nat), landsA ls c, .ros ((chQ Z H ls).map rowsL) (chQ Z H ls).length none] 0, i64 (a : Nat)] (i64 ((pieQ Z H ls[a] : Nat) : Int)) := by
  refine pure_of_body Try.func78 (c := body Try.f78) J (by simp [Try.ntmps78]) fun w0 Φ0 => ?_
  refine Wsr J J ?_
  refine Rv J J J (U_boxF J J J) J J ?_
  refine Rv J J J (U_boxF J J J) J J ?_
  refine Rv J J J (U_assign J) J J ?_
  refine Rt J ?_
  refine Wsr J J ?_
  refine Rv J J J (U_load1 J J J) J J ?_
  refine Rv J J J (U_nilCheckR J) J J ?_
  refine Rv J J J (U_fieldAddrR J) J J ?_
  refine Rv J J J (U_fieldAddrR J) J J ?_
  refine Rv J J J (U_load1 J J J) J J ?_
  refine Ra J J J (U_mkL (n := Z) (cs' := (rowsP Z fun _ _ => false).flatMap (rowC 48)) J J J (by omega) rowsMk) J J J ?_
  refine Ra J J J (U_alloc) J J J ?_
  refine Rn J J J (U_store1 J J J J) J ?_
  refine Rt J ?_
  refine Wsr J J ?_
  refine Rv J J J (U_load1 J J J) J J ?_
  refine Rn J J J (U_clear (z := 48) (cs' := (rowsP Z (fun _ _ => false)).flatMap (rowC 48)) J J J (by rw [flat_len (z := 48) (fun _ => rowC_len), rowsP_len]; omega) J ((congrArg (setC _ 0) (rowsMk (n := Z))).trans (setC_all J))) J ?_
  refine Rt J ?_
  refine Wsr J J ?_
  refine Ra J J J (U_alloc) J J J ?_
  refine Rn J J J (U_store1 J J J J) J ?_
  refine Rt J ?_
  refine W_seq J ?_
  refine Wsr J J ?_
  refine Rv J J J (U_load1 J J J) J J ?_
  refine Rv J J J (U_call J J (places_p H Z ls c) J) J J ?_
  refine Rt J ?_
  refine W_block J ?_
  refine W_rangeI (T' := [(2, .rop [.rop [i64 ((H : Nat) : Int), i64 ((Z : Nat) : Int), .ros (ls.map boxesL) ls.length c, .ros ((chQ Z H ls).map rowsL) ((chQ Z H ls).length) none] 0] 0), (3, .rop [i64 ((a : Nat) : Int)] 0), (5, .ptr 1 0), (6, .ptr 2 0), (20, .fn 101 [] [.rop [.rop [i64 ((H : Nat) : Int), i64 ((Z : Nat) : Int), .ros (ls.map boxesL) ls.length c, .ros ((chQ Z H ls).map rowsL) ((chQ Z H ls).length) none] 0] 0])]) (n := 3) J J (places_it H Z ls c hH hZ) (fun i => [(0, some (.cells ((rowsP Z (fun z h => (pieK Z H ls[a] i).1.contains (z, h))).flatMap (rowC 48)) 112)), (1, some (.cells [.slice 0 0 Z Z] 113)), (2, some (.cells [i64 (((pieK Z H ls[a] i).2 : Nat) : Int)] 3))]) ⟨eD J J, eD J J, e_ J J, e_ J J, eD J J, trivial⟩ ⟨rD (flatD rowC_data _) J J, r_ J J J, rD J J J, trivial⟩ J J J J J (fun i => ⟨rD (flatD rowC_data _) J J, r_ J J J, rD J J J, trivial⟩) ?_ ?_
  · intro i x_ hx_ C_ hC_ N_ hN_
    obtain ⟨hi_, rfl⟩ := mapAt hx_
    have hpz := plcQ_in (List.getElem_mem hi_)
    have hil : i < (plcQ Z H).length := hi_
    have hilen := plcQ_len (Z := Z) (H := H)
    have hZH : Z * H ≤ 1152 := Nat.mul_le_mul hZ hH.2
    have hpk := pieK_ok (Z := Z) (H := H) (la := ls[a]) i
    have hpl := pieK_le (Z := Z) (H := H) (la := ls[a]) i
    have hpL := hpk.len
    have hrl0 : (rowsP Z (fun z h => (pieK Z H ls[a] i).1.contains (z, h))).length = Z := rowsP_len
    obtain ⟨_, w0_, Wr_, Φ0_, ro_, nt_, k0_, ρ0_⟩ := C_
    have hC2_ : _ = Try.prog := hC_
    subst hC2_
    intro ρ_ Φ_ w_ lc_
    refine W_reg J ?_
    refine Ra J J J (U_alloc) J J J ?_
    refine Rn J J J (U_storeAll J J J J J J) J ?_
    refine Re J ?_
    refine ⟨rfl, ?_⟩
    refine W_block J ?_
    refine W_seq J ?_
    refine W_seq J ?_
    refine Wjoin ⟨[(2, .rop [.rop [i64 ((H : Nat) : Int), i64 ((Z : Nat) : Int), .ros (ls.map boxesL) ls.length c, .ros ((chQ Z H ls).map rowsL) ((chQ Z H ls).length) none] 0] 0), (3, .rop [i64 ((a : Nat) : Int)] 0), (5, .ptr 1 0), (6, .ptr 2 0), (7, .ptr 5 0), (37, .bool ((decide (((bitQ ls[a] H (((plcQ Z H)[i]).1) (((plcQ Z H)[i]).2) : Nat) : Int) = (0 : Int))) || (decide (0 < ((rowsP Z (fun z h => (pieK Z H ls[a] i).1.contains (z, h)))[(((plcQ Z H)[i]).1)] (((plcQ Z H)[i]).2))))))], [(0, some (.cells ((rowsP Z (fun z h => (pieK Z H ls[a] i).1.contains (z, h))).flatMap (rowC 48)) 112)), (1, some (.cells [.slice 0 0 Z Z] 113)), (2, some (.cells [i64 (((pieK Z H ls[a] i).2 : Nat) : Int)] 3)), (4, some (.loop .busy none [(2, .rop [.rop [i64 ((H : Nat) : Int), i64 ((Z : Nat) : Int), .ros (ls.map boxesL) ls.length c, .ros ((chQ Z H ls).map rowsL) ((chQ Z H ls).length) none] 0] 0), (3, .rop [i64 ((a : Nat) : Int)] 0), (5, .ptr 1 0), (6, .ptr 2 0), (20, .fn 101 [] [.rop [.rop [i64 ((H : Nat) : Int), i64 ((Z : Nat) : Int), .ros (ls.map boxesL) ls.length c, .ros ((chQ Z H ls).map rowsL) ((chQ Z H ls).length) none] 0] 0])] Try.f78.ntmps (body Try.f78).r.r.r.r.l.r.l.ps (body Try.f78).r.r.r.r.l.r.l.l (body Try.f78).r.r.r.r.l.r.l.r 3)), (5, some (.cells [i64 ((((plcQ Z H)[i]).1 : Nat) : Int), i64 ((((plcQ Z H)[i]).2 : Nat) : Int)] 80))], 6, []⟩ ?_ ?_
    · refine Wdraw J (by kernel_rfl) (by kernel_rfl) ?_
      refine Dv J J J (U_load1 J J J) J J ?_
      refine Dv J J J (U_load1 J J J) J J ?_
      refine Dv J J J (U_load2 J J J J) J J ?_
      refine Dv J J J (U_call J J (in_p H Z ls c a (((plcQ Z H)[i]).1) (((plcQ Z H)[i]).2) (by omega) (by omega) (by omega)) J) J J ?_
      refine Dv J J J (U_eql J J) J J ?_
      refine Dv J J J (U_move J) J J ?_
      refine Dsplit (t := 27) J (fun hg1 => ?_) (fun hg1 => ?_)
      · rw [hg1]
        have hg1' : ((bitQ ls[a] H (((plcQ Z H)[i]).1) (((plcQ Z H)[i]).2) : Nat) : Int) = (0 : Int) := of_decide_eq_true hg1
        refine Ds J J J J J ?_
        refine Ds J J J J J ?_
        refine Ds J J J J J ?_
        refine Ds J J J J J ?_
        refine Ds J J J J J ?_
        refine Ds J J J J J ?_
        refine Ds J J J J J ?_
        refine Ds J J J J J ?_
        refine Ds J J J J J ?_
        refine Dv J J J (U_pick_t J J) J J ?_
        refine Dr.nil J ?_
        exact joinTo id ⟨eD J J, eD J J, e_ J J, e_ J J, e_ J J, eD J J, trivial⟩ ⟨rD (flatD rowC_data _) J J, r_ J J J, rD J J J, r_ J J J, rD J J J, trivial⟩ J J J J (fun _ _ => J)
      · rw [hg1]
        have hg1' : ¬ (((bitQ ls[a] H (((plcQ Z H)[i]).1) (((plcQ Z H)[i]).2) : Nat) : Int) = (0 : Int)) := of_decide_eq_false hg1
        refine Dv J J J (U_load1 J J J) J J ?_
        refine Dv J J J (U_fieldAddr J) J J ?_
        refine Dv J J J (U_load1 J J J) J J ?_
        refine Dv J J J (U_fieldAddr J) J J ?_
        refine Dv J J J (U_load1 J J J) J J ?_
        have hx2 : (((plcQ Z H)[i]).1) < (rowsP Z (fun z h => (pieK Z H ls[a] i).1.contains (z, h))).length := by omega
        refine Dv J J J (U_indexS (j := (((plcQ Z H)[i]).1)) J J J (by omega)) J J ?_
        have hx3 : (((plcQ Z H)[i]).2) < 48 := by omega
        refine Dv J J J (U_indexA (j := (((plcQ Z H)[i]).2)) J J J hx3) J J ?_
        refine Dv J J J (U_load1 J J (rowG0 hx2 hx3)) J J ?_
        refine Dv J J J (U_gtr J J) J J ?_
        refine Dv J J J (U_pick_f J J) J J ?_
        refine Dr.nil J ?_
        exact joinTo id ⟨eD J J, eD J J, e_ J J, e_ J J, e_ J J, eD J J, trivial⟩ ⟨rD (flatD rowC_data _) J J, r_ J J J, rD J J J, r_ J J J, rD J J J, trivial⟩ J J J J (fun _ _ => J)
    refine thenQ_n ?_
    refine Wcond J J (fun hc0 => ?_) (fun hc0 => ?_)
    · have hpi := pieK_f hi_ (seeT (fun _ _ => rfl) (by omega) hc0)
      refine W_exit J ?_
      refine thenQ_x ?_
      refine blkQ_x J ?_
      refine ⟨rfl, ?_⟩
      exact hN_ _ _ ⟨(rD (flatD rowC_data _) (by first | (rw [hpi]; rfl) | (rw [show rowsP Z (fun z h => (pieK Z H ls[a] (i + 1)).1.contains (z, h)) = rowsP Z P from rowsP_congr fun z h _ => by rw [hi0_4, hpS]]; rfl)) rfl), r_ rfl rfl rfl, (rD rfl (by first | (rw [hpi]; rfl) | (rw [hpi2]; rfl)) rfl), trivial⟩
    · have hc0' := Bool.eq_false_iff.1 hc0
      have hin := seeF (S := (pieK Z H ls[a] i).1) (fun _ _ => rfl) (by omega) hc0
      refine W_skip J ?_
      refine thenQ_n ?_
      refine Wsr J J ?_
      refine Rv J J J (U_load1 J J J) J J ?_
      refine Rv J J J (U_add J J (w64e (m := (((pieK Z H ls[a] i).2 + 1 : Nat) : Int)) (by omega) (by omega) (by omega))) J J ?_
      refine Rn J J J (U_store1 J J J J) J ?_
      refine Rt J ?_
      refine W_seq J ?_
      refine Wdraw J (by kernel_rfl) (by kernel_rfl) ?_
      refine Dv J J J (U_load1 J J J) J J ?_
      refine Dv J J J (U_fieldAddr J) J J ?_
      refine Dv J J J (U_load1 J J J) J J ?_
      refine Dv J J J (U_fieldAddr J) J J ?_
      refine Dv J J J (U_load1 J J J) J J ?_
      have hx4 : (((plcQ Z H)[i]).1) < (rowsP Z (fun z h => (pieK Z H ls[a] i).1.contains (z, h))).length := by omega
      refine Dv J J J (U_indexS (j := (((plcQ Z H)[i]).1)) J J J (by omega)) J J ?_
      have hx5 : (((plcQ Z H)[i]).2) < 48 := by omega
      refine Dv J J J (U_indexA (j := (((plcQ Z H)[i]).2)) J J J hx5) J J ?_
      refine Dn_ J J J (U_store (n := 1) (cs' := (rowsP Z (setP (fun z h => (pieK Z H ls[a] i).1.contains (z, h)) (((plcQ Z H)[i]).1) (((plcQ Z H)[i]).2))).flatMap (rowC 48)) J J J J J (rowsLt hx4 hx5) J ((rowS hx4 hx5).trans (congrArg (fun L => L.flatMap (rowC 48)) (rowsP_set hx4)))) J J ?_
      refine Dr.nil J ?_
      refine thenQ_n ?_
      refine Wsr J J ?_
      refine Rv J J J (U_load2 J J J J) J J ?_
      refine Ra J J J (U_buildSliceQ (by rfl) (by decide) J J J) J J J ?_
      refine Rv J J J (U_assign J) J J ?_
      refine Rt J ?_
      refine W_block J ?_
      refine LoopTo (T' := [(2, .rop [.rop [i64 ((H : Nat) : Int), i64 ((Z : Nat) : Int), .ros (ls.map boxesL) ls.length c, .ros ((chQ Z H ls).map rowsL) ((chQ Z H ls).length) none] 0] 0), (3, .rop [i64 ((a : Nat) : Int)] 0), (5, .ptr 1 0), (6, .ptr 2 0), (8, .sliceo 6 0 [(plcQ Z H)[i]].length 2)]) (H' := [(0, some (.cells ((rowsP Z (setP (fun z h => (pieK Z H ls[a] i).1.contains (z, h)) (((plcQ Z H)[i]).1) (((plcQ Z H)[i]).2))).flatMap (rowC 48)) 112)), (1, some (.cells [.slice 0 0 Z Z] 113)), (2, some (.cells [i64 (((pieK Z H ls[a] i).2 + 1 : Nat) : Int)] 3)), (4, some (.loop .busy none [(2, .rop [.rop [i64 ((H : Nat) : Int), i64 ((Z : Nat) : Int), .ros (ls.map boxesL) ls.length c, .ros ((chQ Z H ls).map rowsL) ((chQ Z H ls).length) none] 0] 0), (3, .rop [i64 ((a : Nat) : Int)] 0), (5, .ptr 1 0), (6, .ptr 2 0), (20, .fn 101 [] [.rop [.rop [i64 ((H : Nat) : Int), i64 ((Z : Nat) : Int), .ros (ls.map boxesL) ls.length c, .ros ((chQ Z H ls).map rowsL) ((chQ Z H ls).length) none] 0] 0])] Try.f78.ntmps (body Try.f78).r.r.r.r.l.r.l.ps (body Try.f78).r.r.r.r.l.r.l.l (body Try.f78).r.r.r.r.l.r.l.r 3)), (6, some (.cells ([(plcQ Z H)[i]].flatMap plcC) 80))]) (n := 7) J (fun mz_ qz_ => ∃ (S : List (Nat × Nat)) (k : Nat) (f : Nat) (W : List (Nat × Nat)) (P : Nat → Nat → Bool), PcOk Z H S ∧ runQ Z H ls[a] f S k = runQ Z H ls[a] (Z * H) ((pieK Z H ls[a] i).1 ++ [(plcQ Z H)[i]]) (pieK Z H ls[a] i).1.length ∧ k + f = Z * H + (pieK Z H ls[a] i).1.length ∧ W = S.drop k ∧ ((∀ z h, P z h = S.contains (z, h))) ∧ mz_ = 0 + f ∧ qz_ = ⟨[(2, .rop [.rop [i64 ((H : Nat) : Int), i64 ((Z : Nat) : Int), .ros (ls.map boxesL) ls.length c, .ros ((chQ Z H ls).map rowsL) ((chQ Z H ls).length) none] 0] 0), (3, .rop [i64 ((a : Nat) : Int)] 0), (5, .ptr 1 0), (6, .ptr 2 0), (8, .sliceo 6 0 W.length 2)], [(0, some (.cells ((rowsP Z P).flatMap (rowC 48)) 112)), (1, some (.cells [.slice 0 0 Z Z] 113)), (2, some (.cells [i64 (((pieK Z H ls[a] i).2 + 1 : Nat) : Int)] 3)), (4, some (.loop .busy none [(2, .rop [.rop [i64 ((H : Nat) : Int), i64 ((Z : Nat) : Int), .ros (ls.map boxesL) ls.length c, .ros ((chQ Z H ls).map rowsL) ((chQ Z H ls).length) none] 0] 0), (3, .rop [i64 ((a : Nat) : Int)] 0), (5, .ptr 1 0), (6, .ptr 2 0), (20, .fn 101 [] [.rop [.rop [i64 ((H : Nat) : Int), i64 ((Z : Nat) : Int), .ros (ls.map boxesL) ls.length c, .ros ((chQ Z H ls).map rowsL) ((chQ Z H ls).length) none] 0] 0])] Try.f78.ntmps (body Try.f78).r.r.r.r.l.r.l.ps (body Try.f78).r.r.r.r.l.r.l.l (body Try.f78).r.r.r.r.l.r.l.r 3)), (6, some (.cells (W.flatMap plcC) 80))], 7, []⟩) ⟨(pieK Z H ls[a] i).1 ++ [(plcQ Z H)[i]], (pieK Z H ls[a] i).1.length, Z * H, [(plcQ Z H)[i]], setP (fun z h => (pieK Z H ls[a] i).1.contains (z, h)) (((plcQ Z H)[i]).1) (((plcQ Z H)[i]).2), (hpk.snoc hpz hin.2), J, (by omega), (by simp), (setP_con (fun _ _ => J) _), J, J⟩ id ⟨eD J J, eD J J, e_ J J, e_ J J, e_ J J, trivial⟩ ⟨rD (flatD rowC_data _) J J, r_ J J J, rD J J J, r_ J J J, rD (flatD (fun _ => J) _) J J, trivial⟩ J J J J (fun _ _ => J) ?_
      rintro _ _ ⟨S, k, f, W, P, hi0_0, hi0_1, hi0_2, hi0_3, hi0_4, rfl, rfl⟩
      have hrlP : (rowsP Z P).length = Z := rowsP_len
      have hKl := hi0_0.len
      refine W_seq J ?_
      refine Wsr J J ?_
      refine Rv J J J (U_move J) J J ?_
      refine Rv J J J (U_lenOf J len_sliceo) J J ?_
      refine Rv J J J (U_gtr J J) J J ?_
      refine Rt J ?_
      refine WcondP J J (fun hc1 => ?_) (fun hc1 => ?_)
      · have hWl : W.length = S.length - k := by rw [hi0_3, List.length_drop]
        have hk : k < S.length := by omega
        have hw0 : 0 < W.length := by omega
        have hW0 : W[0] = S[k] := by simp [hi0_3]
        have hwz := hi0_0.pl _ (List.getElem_mem hk)
        rw [← hW0] at hwz
        have hbs := bsP_len (Z := Z) (H := H) (z := W[0].1) (h := W[0].2)
        refine W_skip J ?_
        refine thenQ_n ?_
        refine W_block J ?_
        refine Wsr J J ?_
        refine Rv J J J (U_move J) J J ?_
        have hx6 : 0 < W.length := by omega
        refine Rv J J J (U_indexSo (j := 0) J J J (by omega)) J J ?_
        refine Rv J J J (U_load2 J J (pcZ0 hx6) (pcZ1 hx6)) J J ?_
        refine Ra J J J (U_alloc) J J J ?_
        refine Rn J J J (U_storeAll J J J J J J) J ?_
        refine Rt J ?_
        refine Wsr J J ?_
        refine Rv J J J (U_move J) J J ?_
        refine Ra J J J (U_sliceQ' (n := W.tail.length) (cs' := W.tail.flatMap plcC) (by simp; omega) J J J (flat_len (z := 2) (fun _ => J) _) (dropF (z := 2) (fun _ => J) _)) J J J ?_
        refine Rv J J J (U_assign J) J J ?_
        refine Rt J ?_
        refine Wsr J J ?_
        refine Rv J J J (U_load1 J J J) J J ?_
        refine Rv J J J (U_load2 J J J J) J J ?_
        refine Rv J J J (U_call J J (beside_p H Z ls c W[0].1 W[0].2 (by omega) (by omega) (by omega) (by omega)) J) J J ?_
        refine Rv J J J (U_lenOf J len_ros) J J ?_
        refine Rv J J J (U_move J) J J ?_
        refine Rt J ?_
        refine W_block J ?_
        refine LoopTo (T' := [(2, .rop [.rop [i64 ((H : Nat) : Int), i64 ((Z : Nat) : Int), .ros (ls.map boxesL) ls.length c, .ros ((chQ Z H ls).map rowsL) ((chQ Z H ls).length) none] 0] 0), (3, .rop [i64 ((a : Nat) : Int)] 0), (5, .ptr 1 0), (6, .ptr 2 0), (8, .sliceo 6 0 W.tail.length 2), (59, .ros ((bsP Z H W[0].1 W[0].2).flatMap plcC) ((bsP Z H W[0].1 W[0].2).length) none), (60, i64 (((bsP Z H W[0].1 W[0].2).length : Nat) : Int)), (61, i64 ((0 : Nat) : Int))]) (H' := [(0, some (.cells ((rowsP Z P).flatMap (rowC 48)) 112)), (1, some (.cells [.slice 0 0 Z Z] 113)), (2, some (.cells [i64 (((pieK Z H ls[a] i).2 + 1 : Nat) : Int)] 3)), (4, some (.loop .busy none [(2, .rop [.rop [i64 ((H : Nat) : Int), i64 ((Z : Nat) : Int), .ros (ls.map boxesL) ls.length c, .ros ((chQ Z H ls).map rowsL) ((chQ Z H ls).length) none] 0] 0), (3, .rop [i64 ((a : Nat) : Int)] 0), (5, .ptr 1 0), (6, .ptr 2 0), (20, .fn 101 [] [.rop [.rop [i64 ((H : Nat) : Int), i64 ((Z : Nat) : Int), .ros (ls.map boxesL) ls.length c, .ros ((chQ Z H ls).map rowsL) ((chQ Z H ls).length) none] 0] 0])] Try.f78.ntmps (body Try.f78).r.r.r.r.l.r.l.ps (body Try.f78).r.r.r.r.l.r.l.l (body Try.f78).r.r.r.r.l.r.l.r 3)), (6, some (.cells (W.tail.flatMap plcC) 80))]) (n := 7) J (fun mz_ qz_ => ∃ (j : Nat) (S2 : List (Nat × Nat)) (P2 : Nat → Nat → Bool) (W2 : List (Nat × Nat)), j ≤ (bsP Z H W[0].1 W[0].2).length ∧ S2 = ((bsP Z H W[0].1 W[0].2).take j).foldl (addQ H ls[a]) S ∧ W2 = S2.drop (k + 1) ∧ ((∀ z h, P2 z h = S2.contains (z, h))) ∧ PcOk Z H S2 ∧ S.length ≤ S2.length ∧ mz_ = (bsP Z H W[0].1 W[0].2).length - j ∧ qz_ = ⟨[(2, .rop [.rop [i64 ((H : Nat) : Int), i64 ((Z : Nat) : Int), .ros (ls.map boxesL) ls.length c, .ros ((chQ Z H ls).map rowsL) ((chQ Z H ls).length) none] 0] 0), (3, .rop [i64 ((a : Nat) : Int)] 0), (5, .ptr 1 0), (6, .ptr 2 0), (8, .sliceo 6 0 W2.length 2), (59, .ros ((bsP Z H W[0].1 W[0].2).flatMap plcC) ((bsP Z H W[0].1 W[0].2).length) none), (60, i64 (((bsP Z H W[0].1 W[0].2).length : Nat) : Int)), (61, i64 ((j : Nat) : Int))], [(0, some (.cells ((rowsP Z P2).flatMap (rowC 48)) 112)), (1, some (.cells [.slice 0 0 Z Z] 113)), (2, some (.cells [i64 (((pieK Z H ls[a] i).2 + 1 : Nat) : Int)] 3)), (4, some (.loop .busy none [(2, .rop [.rop [i64 ((H : Nat) : Int), i64 ((Z : Nat) : Int), .ros (ls.map boxesL) ls.length c, .ros ((chQ Z H ls).map rowsL) ((chQ Z H ls).length) none] 0] 0), (3, .rop [i64 ((a : Nat) : Int)] 0), (5, .ptr 1 0), (6, .ptr 2 0), (20, .fn 101 [] [.rop [.rop [i64 ((H : Nat) : Int), i64 ((Z : Nat) : Int), .ros (ls.map boxesL) ls.length c, .ros ((chQ Z H ls).map rowsL) ((chQ Z H ls).length) none] 0] 0])] Try.f78.ntmps (body Try.f78).r.r.r.r.l.r.l.ps (body Try.f78).r.r.r.r.l.r.l.l (body Try.f78).r.r.r.r.l.r.l.r 3)), (6, some (.cells (W2.flatMap plcC) 80))], 7, []⟩) ⟨0, S, P, W.tail, (by omega), J, (by rw [hi0_3, List.tail_drop]), hi0_4, hi0_0, (Nat.le_refl _), J, J⟩ (mapN [0, 1, 2, 3, 4, 5, 8]) ⟨eD J J, eD J J, e_ J J, e_ J J, e_ J J, eD J J, eD J J, eD J J, trivial⟩ ⟨rD (flatD rowC_data _) J J, r_ J J J, rD J J J, r_ J J J, rD (flatD (fun _ => J) _) J J, trivial⟩ J J J J (fun b h => by match b, h with | 0, _ => rfl | 1, _ => rfl | 2, _ => rfl | 3, _ => rfl | 4, _ => rfl) ?_
        rintro _ _ ⟨j, S2, P2, W2, hi1_0, hi1_1, hi1_2, hi1_3, hi1_4, hi1_5, rfl, rfl⟩
        have hrlP2 : (rowsP Z P2).length = Z := rowsP_len
        have hKl2 := hi1_4.len
        have hWl2 : W2.length = S2.length - (k + 1) := by rw [hi1_2, List.length_drop]
        refine Wsr J J ?_
        refine Rv J J J (U_lss J J) J J ?_
        refine Rt J ?_
        refine W_seq J ?_
        refine WcondP J J (fun hc2 => ?_) (fun hc2 => ?_)
        · have hck : j < (bsP Z H W[0].1 W[0].2).length := by omega
          have hqz := bsP_in hwz.1 hwz.2 _ (List.getElem_mem hck)
          obtain ⟨S3, hS3⟩ : ∃ S3, S3 = addQ H ls[a] S2 (bsP Z H W[0].1 W[0].2)[j] := ⟨_, rfl⟩
          have hL2 : S.length ≤ S3.length := by rw [hS3]; exact Nat.le_trans hi1_5 addQ_le
          refine W_skip J ?_
          refine thenQ_n ?_
          refine W_seq J ?_
          refine W_block J ?_
          refine Wsr J J ?_
          have hx7 : j < (bsP Z H W[0].1 W[0].2).length := by omega
          refine Rv J J J (U_indexR (j := j) J J J hx7) J J ?_
          refine Rv J J J (U_load2 J J (pcG0 hx7) (pcG1 hx7)) J J ?_
          refine Ra J J J (U_alloc) J J J ?_
          refine Rn J J J (U_storeAll J J J J J J) J ?_
          refine Rt J ?_
          refine W_seq J ?_
          refine Wjoin ⟨[(2, .rop [.rop [i64 ((H : Nat) : Int), i64 ((Z : Nat) : Int), .ros (ls.map boxesL) ls.length c, .ros ((chQ Z H ls).map rowsL) ((chQ Z H ls).length) none] 0] 0), (3, .rop [i64 ((a : Nat) : Int)] 0), (5, .ptr 1 0), (6, .ptr 2 0), (8, .sliceo 6 0 W2.length 2), (11, .ptr 7 0), (59, .ros ((bsP Z H W[0].1 W[0].2).flatMap plcC) ((bsP Z H W[0].1 W[0].2).length) none), (60, i64 (((bsP Z H W[0].1 W[0].2).length : Nat) : Int)), (61, i64 ((j : Nat) : Int)), (80, .bool ((decide ((0 : Int) < ((bitQ ls[a] H (((bsP Z H W[0].1 W[0].2)[j]).1) (((bsP Z H W[0].1 W[0].2)[j]).2) : Nat) : Int))) && (decide (((rowsP Z P2)[(((bsP Z H W[0].1 W[0].2)[j]).1)] (((bsP Z H W[0].1 W[0].2)[j]).2)) = 0))))], [(0, some (.cells ((rowsP Z P2).flatMap (rowC 48)) 112)), (1, some (.cells [.slice 0 0 Z Z] 113)), (2, some (.cells [i64 (((pieK Z H ls[a] i).2 + 1 : Nat) : Int)] 3)), (4, some (.loop .busy none [(2, .rop [.rop [i64 ((H : Nat) : Int), i64 ((Z : Nat) : Int), .ros (ls.map boxesL) ls.length c, .ros ((chQ Z H ls).map rowsL) ((chQ Z H ls).length) none] 0] 0), (3, .rop [i64 ((a : Nat) : Int)] 0), (5, .ptr 1 0), (6, .ptr 2 0), (20, .fn 101 [] [.rop [.rop [i64 ((H : Nat) : Int), i64 ((Z : Nat) : Int), .ros (ls.map boxesL) ls.length c, .ros ((chQ Z H ls).map rowsL) ((chQ Z H ls).length) none] 0] 0])] Try.f78.ntmps (body Try.f78).r.r.r.r.l.r.l.ps (body Try.f78).r.r.r.r.l.r.l.l (body Try.f78).r.r.r.r.l.r.l.r 3)), (6, some (.cells (W2.flatMap plcC) 80)), (7, some (.cells [i64 ((((bsP Z H W[0].1 W[0].2)[j]).1 : Nat) : Int), i64 ((((bsP Z H W[0].1 W[0].2)[j]).2 : Nat) : Int)] 80))], 8, []⟩ ?_ ?_
          · refine Wdraw J (by kernel_rfl) (by kernel_rfl) ?_
            refine Dv J J J (U_load1 J J J) J J ?_
            refine Dv J J J (U_load1 J J J) J J ?_
            refine Dv J J J (U_load2 J J J J) J J ?_
            refine Dv J J J (U_call J J (in_p H Z ls c a (((bsP Z H W[0].1 W[0].2)[j]).1) (((bsP Z H W[0].1 W[0].2)[j]).2) (by omega) (by omega) (by omega)) J) J J ?_
            refine Dv J J J (U_gtr J J) J J ?_
            refine Dv J J J (U_move J) J J ?_
            refine Dsplit (t := 70) J (fun hg8 => ?_) (fun hg8 => ?_)
            · rw [hg8]
              have hg8' : (0 : Int) < ((bitQ ls[a] H (((bsP Z H W[0].1 W[0].2)[j]).1) (((bsP Z H W[0].1 W[0].2)[j]).2) : Nat) : Int) := of_decide_eq_true hg8
              refine Dv J J J (U_load1 J J J) J J ?_
              refine Dv J J J (U_fieldAddr J) J J ?_
              refine Dv J J J (U_load1 J J J) J J ?_
              refine Dv J J J (U_fieldAddr J) J J ?_
              refine Dv J J J (U_load1 J J J) J J ?_
              have hx9 : (((bsP Z H W[0].1 W[0].2)[j]).1) < (rowsP Z P2).length := by omega
              refine Dv J J J (U_indexS (j := (((bsP Z H W[0].1 W[0].2)[j]).1)) J J J (by omega)) J J ?_
              have hx10 : (((bsP Z H W[0].1 W[0].2)[j]).2) < 48 := by omega
              refine Dv J J J (U_indexA (j := (((bsP Z H W[0].1 W[0].2)[j]).2)) J J J hx10) J J ?_
              refine Dv J J J (U_load1 J J (rowG0 hx9 hx10)) J J ?_
              refine Dv J J J (U_eql J J) J J ?_
              refine Dv J J J (U_pick_t J J) J J ?_
              refine Dr.nil J ?_
              exact joinTo id ⟨eD J J, eD J J, e_ J J, e_ J J, e_ J J, e_ J J, eD J J, eD J J, eD J J, eD J J, trivial⟩ ⟨rD (flatD rowC_data _) J J, r_ J J J, rD J J J, r_ J J J, rD (flatD (fun _ => J) _) J J, rD J J J, trivial⟩ J J J J (fun _ _ => J)
            · rw [hg8]
              have hg8' : ¬ ((0 : Int) < ((bitQ ls[a] H (((bsP Z H W[0].1 W[0].2)[j]).1) (((bsP Z H W[0].1 W[0].2)[j]).2) : Nat) : Int)) := of_decide_eq_false hg8
              refine Ds J J J J J ?_
              refine Ds J J J J J ?_
              refine Ds J J J J J ?_
              refine Ds J J J J J ?_
              refine Ds J J J J J ?_
              refine Ds J J J J J ?_
              refine Ds J J J J J ?_
              refine Ds J J J J J ?_
              refine Ds J J J J J ?_
              refine Dv J J J (U_pick_f J J) J J ?_
              refine Dr.nil J ?_
              exact joinTo id ⟨eD J J, eD J J, e_ J J, e_ J J, e_ J J, e_ J J, eD J J, eD J J, eD J J, eD J J, trivial⟩ ⟨rD (flatD rowC_data _) J J, r_ J J J, rD J J J, r_ J J J, rD (flatD (fun _ => J) _) J J, rD J J J, trivial⟩ J J J J (fun _ _ => J)
          refine thenQ_n ?_
          refine Wcond J J (fun hc3 => ?_) (fun hc3 => ?_)
          · have hin3 := seeN hi1_3 (by omega) hc3
            have hadd : S3 = S2 ++ [(bsP Z H W[0].1 W[0].2)[j]] := hS3.trans (if_pos hin3)
            have hW2 : W2 ++ [(bsP Z H W[0].1 W[0].2)[j]] = S3.drop (k + 1) := by rw [hadd, hi1_2, List.drop_append_of_le_length (by omega)]
            have hP2 : ∀ z h, setP P2 (bsP Z H W[0].1 W[0].2)[j].1 (bsP Z H W[0].1 W[0].2)[j].2 z h = S3.contains (z, h) := by rw [hadd]; exact setP_con hi1_3 _
            have hK2 : PcOk Z H S3 := by rw [hadd]; exact hi1_4.snoc hqz hin3.2
            refine W_seq J ?_
            refine Wdraw J (by kernel_rfl) (by kernel_rfl) ?_
            refine Dv J J J (U_load1 J J J) J J ?_
            refine Dv J J J (U_fieldAddr J) J J ?_
            refine Dv J J J (U_load1 J J J) J J ?_
            refine Dv J J J (U_fieldAddr J) J J ?_
            refine Dv J J J (U_load1 J J J) J J ?_
            have hx11 : (((bsP Z H W[0].1 W[0].2)[j]).1) < (rowsP Z P2).length := by omega
            refine Dv J J J (U_indexS (j := (((bsP Z H W[0].1 W[0].2)[j]).1)) J J J (by omega)) J J ?_
            have hx12 : (((bsP Z H W[0].1 W[0].2)[j]).2) < 48 := by omega
            refine Dv J J J (U_indexA (j := (((bsP Z H W[0].1 W[0].2)[j]).2)) J J J hx12) J J ?_
            refine Dn_ J J J (U_store (n := 1) (cs' := (rowsP Z (setP P2 (((bsP Z H W[0].1 W[0].2)[j]).1) (((bsP Z H W[0].1 W[0].2)[j]).2))).flatMap (rowC 48)) J J J J J (rowsLt hx11 hx12) J ((rowS hx11 hx12).trans (congrArg (fun L => L.flatMap (rowC 48)) (rowsP_set hx11)))) J J ?_
            refine Dr.nil J ?_
            refine thenQ_n ?_
            refine W_reg J ?_
            refine Rv J J J (U_move J) J J ?_
            refine Rv J J J (U_load2 J J J J) J J ?_
            refine Rv J J J (U_buildSliceF (by rfl) (by decide) J J J) J J ?_
            refine Ra J J J (U_appQ (b := 6) (m := 1) (cs' := (W2 ++ [((bsP Z H W[0].1 W[0].2)[j])]).flatMap plcC) (n' := (W2 ++ [((bsP Z H W[0].1 W[0].2)[j])]).length) (by simp) J J J (flat_len (z := 2) (fun _ => J) _) J J (by omega) (appF _ _)) J J J ?_
            refine Rv J J J (U_assign J) J J ?_
            refine Re J ?_
            refine blkQ_n ?_
            refine thenQ_n ?_
            refine W_reg J ?_
            refine Rv J J J (U_add J J (w64e (m := ((j + 1 : Nat) : Int)) (by omega) (by omega) (by omega))) J J ?_
            refine Rv J J J (U_move J) J J ?_
            refine Rt J ?_
            exact againTo (T' := [(2, .rop [.rop [i64 ((H : Nat) : Int), i64 ((Z : Nat) : Int), .ros (ls.map boxesL) ls.length c, .ros ((chQ Z H ls).map rowsL) ((chQ Z H ls).length) none] 0] 0), (3, .rop [i64 ((a : Nat) : Int)] 0), (5, .ptr 1 0), (6, .ptr 2 0), (8, .sliceo 6 0 (W2 ++ [((bsP Z H W[0].1 W[0].2)[j])]).length 2), (59, .ros ((bsP Z H W[0].1 W[0].2).flatMap plcC) ((bsP Z H W[0].1 W[0].2).length) none), (60, i64 (((bsP Z H W[0].1 W[0].2).length : Nat) : Int)), (61, i64 (((j + 1) : Nat) : Int))]) (H' := [(0, some (.cells ((rowsP Z (setP P2 (((bsP Z H W[0].1 W[0].2)[j]).1) (((bsP Z H W[0].1 W[0].2)[j]).2))).flatMap (rowC 48)) 112)), (1, some (.cells [.slice 0 0 Z Z] 113)), (2, some (.cells [i64 (((pieK Z H ls[a] i).2 + 1 : Nat) : Int)] 3)), (4, some (.loop .busy none [(2, .rop [.rop [i64 ((H : Nat) : Int), i64 ((Z : Nat) : Int), .ros (ls.map boxesL) ls.length c, .ros ((chQ Z H ls).map rowsL) ((chQ Z H ls).length) none] 0] 0), (3, .rop [i64 ((a : Nat) : Int)] 0), (5, .ptr 1 0), (6, .ptr 2 0), (20, .fn 101 [] [.rop [.rop [i64 ((H : Nat) : Int), i64 ((Z : Nat) : Int), .ros (ls.map boxesL) ls.length c, .ros ((chQ Z H ls).map rowsL) ((chQ Z H ls).length) none] 0] 0])] Try.f78.ntmps (body Try.f78).r.r.r.r.l.r.l.ps (body Try.f78).r.r.r.r.l.r.l.l (body Try.f78).r.r.r.r.l.r.l.r 3)), (6, some (.cells ((W2 ++ [((bsP Z H W[0].1 W[0].2)[j])]).flatMap plcC) 80))]) (n := 7) ((bsP Z H W[0].1 W[0].2).length - (j + 1)) ⟨j + 1, S3, setP P2 (((bsP Z H W[0].1 W[0].2)[j]).1) (((bsP Z H W[0].1 W[0].2)[j]).2), W2 ++ [((bsP Z H W[0].1 W[0].2)[j])], (by omega), (by rw [fold_snoc hck, ← hi1_1]; exact hS3), hW2, hP2, hK2, hL2, J, J⟩ (by omega) (mapN [0, 1, 2, 3, 4, 5, 8]) ⟨eD J J, eD J J, e_ J J, e_ J J, e_ J J, eD J J, eD J J, eD J J, trivial⟩ ⟨rD (flatD rowC_data _) J J, r_ J J J, rD J J J, r_ J J J, rD (flatD (fun _ => J) _) J J, trivial⟩ J J J J (fun b h => by match b, h with | 0, _ => rfl | 1, _ => rfl | 2, _ => rfl | 3, _ => rfl | 4, _ => rfl)
          · have hc3' := Bool.eq_false_iff.1 hc3
            have hadd : S3 = S2 := hS3.trans (if_neg (seeM hi1_3 (by omega) hc3))
            have hW2 : W2 = S3.drop (k + 1) := by rw [hadd]; exact hi1_2
            have hP2 : ∀ z h, P2 z h = S3.contains (z, h) := by rw [hadd]; exact hi1_3
            have hK2 : PcOk Z H S3 := by rw [hadd]; exact hi1_4
            refine W_skip J ?_
            refine blkQ_n ?_
            refine thenQ_n ?_
            refine W_reg J ?_
            refine Rv J J J (U_add J J (w64e (m := ((j + 1 : Nat) : Int)) (by omega) (by omega) (by omega))) J J ?_
            refine Rv J J J (U_move J) J J ?_
            refine Rt J ?_
            exact againTo (T' := [(2, .rop [.rop [i64 ((H : Nat) : Int), i64 ((Z : Nat) : Int), .ros (ls.map boxesL) ls.length c, .ros ((chQ Z H ls).map rowsL) ((chQ Z H ls).length) none] 0] 0), (3, .rop [i64 ((a : Nat) : Int)] 0), (5, .ptr 1 0), (6, .ptr 2 0), (8, .sliceo 6 0 W2.length 2), (59, .ros ((bsP Z H W[0].1 W[0].2).flatMap plcC) ((bsP Z H W[0].1 W[0].2).length) none), (60, i64 (((bsP Z H W[0].1 W[0].2).length : Nat) : Int)), (61, i64 (((j + 1) : Nat) : Int))]) (H' := [(0, some (.cells ((rowsP Z P2).flatMap (rowC 48)) 112)), (1, some (.cells [.slice 0 0 Z Z] 113)), (2, some (.cells [i64 (((pieK Z H ls[a] i).2 + 1 : Nat) : Int)] 3)), (4, some (.loop .busy none [(2, .rop [.rop [i64 ((H : Nat) : Int), i64 ((Z : Nat) : Int), .ros (ls.map boxesL) ls.length c, .ros ((chQ Z H ls).map rowsL) ((chQ Z H ls).length) none] 0] 0), (3, .rop [i64 ((a : Nat) : Int)] 0), (5, .ptr 1 0), (6, .ptr 2 0), (20, .fn 101 [] [.rop [.rop [i64 ((H : Nat) : Int), i64 ((Z : Nat) : Int), .ros (ls.map boxesL) ls.length c, .ros ((chQ Z H ls).map rowsL) ((chQ Z H ls).length) none] 0] 0])] Try.f78.ntmps (body Try.f78).r.r.r.r.l.r.l.ps (body Try.f78).r.r.r.r.l.r.l.l (body Try.f78).r.r.r.r.l.r.l.r 3)), (6, some (.cells (W2.flatMap plcC) 80))]) (n := 7) ((bsP Z H W[0].1 W[0].2).length - (j + 1)) ⟨j + 1, S3, P2, W2, (by omega), (by rw [fold_snoc hck, ← hi1_1]; exact hS3), hW2, hP2, hK2, hL2, J, J⟩ (by omega) id ⟨eD J J, eD J J, e_ J J, e_ J J, e_ J J, eD J J, eD J J, eD J J, trivial⟩ ⟨rD (flatD rowC_data _) J J, r_ J J J, rD J J J, r_ J J J, rD (flatD (fun _ => J) _) J J, trivial⟩ J J J J (fun _ _ => J)
        · have hS2 : S2 = expQ Z H ls[a] S W[0] := by rw [hi1_1, List.take_of_length_le (by omega)]; rfl
          have hstep : runQ Z H ls[a] (f - 1) S2 (k + 1) = runQ Z H ls[a] (Z * H) ((pieK Z H ls[a] i).1 ++ [(plcQ Z H)[i]]) (pieK Z H ls[a] i).1.length := by rw [hS2, hW0, ← hi0_1]; obtain ⟨f', rfl⟩ : ∃ f', f = f' + 1 := ⟨f - 1, by omega⟩; exact (runQ_step hk).symm
          refine W_exit J ?_
          refine thenQ_x ?_
          refine thenQ_x ?_
          refine blkQ_x J ?_
          refine blkQ_n ?_
          refine thenQ_n ?_
          exact againTo (T' := [(2, .rop [.rop [i64 ((H : Nat) : Int), i64 ((Z : Nat) : Int), .ros (ls.map boxesL) ls.length c, .ros ((chQ Z H ls).map rowsL) ((chQ Z H ls).length) none] 0] 0), (3, .rop [i64 ((a : Nat) : Int)] 0), (5, .ptr 1 0), (6, .ptr 2 0), (8, .sliceo 6 0 W2.length 2)]) (H' := [(0, some (.cells ((rowsP Z P2).flatMap (rowC 48)) 112)), (1, some (.cells [.slice 0 0 Z Z] 113)), (2, some (.cells [i64 (((pieK Z H ls[a] i).2 + 1 : Nat) : Int)] 3)), (4, some (.loop .busy none [(2, .rop [.rop [i64 ((H : Nat) : Int), i64 ((Z : Nat) : Int), .ros (ls.map boxesL) ls.length c, .ros ((chQ Z H ls).map rowsL) ((chQ Z H ls).length) none] 0] 0), (3, .rop [i64 ((a : Nat) : Int)] 0), (5, .ptr 1 0), (6, .ptr 2 0), (20, .fn 101 [] [.rop [.rop [i64 ((H : Nat) : Int), i64 ((Z : Nat) : Int), .ros (ls.map boxesL) ls.length c, .ros ((chQ Z H ls).map rowsL) ((chQ Z H ls).length) none] 0] 0])] Try.f78.ntmps (body Try.f78).r.r.r.r.l.r.l.ps (body Try.f78).r.r.r.r.l.r.l.l (body Try.f78).r.r.r.r.l.r.l.r 3)), (6, some (.cells (W2.flatMap plcC) 80))]) (n := 7) (0 + (f - 1)) ⟨S2, k + 1, f - 1, W2, P2, hi1_4, hstep, (by omega), hi1_2, hi1_3, J, J⟩ (by omega) id ⟨eD J J, eD J J, e_ J J, e_ J J, e_ J J, trivial⟩ ⟨rD (flatD rowC_data _) J J, r_ J J J, rD J J J, r_ J J J, rD (flatD (fun _ => J) _) J J, trivial⟩ J J J J (fun _ _ => J)
      · have hWl : W.length = S.length - k := by rw [hi0_3, List.length_drop]
        have hpS : (pieK Z H ls[a] (i + 1)).1 = S := by rw [pieK_t hi_ hin, ← hi0_1]; exact runQ_end (by omega)
        have hpi2 : (pieK Z H ls[a] (i + 1)).2 = (pieK Z H ls[a] i).2 + 1 := by rw [pieK_t hi_ hin]
        refine W_exit J ?_
        refine thenQ_x ?_
        refine thenQ_x ?_
        refine blkQ_x J ?_
        refine blkQ_n ?_
        refine ⟨rfl, ?_⟩
        exact hN_ _ _ ⟨(rD (flatD rowC_data _) (by first | (rw [hpi]; rfl) | (rw [show rowsP Z (fun z h => (pieK Z H ls[a] (i + 1)).1.contains (z, h)) = rowsP Z P from rowsP_congr fun z h _ => by rw [hi0_4, hpS]]; rfl)) rfl), r_ rfl rfl rfl, (rD rfl (by first | (rw [hpi]; rfl) | (rw [hpi2]; rfl)) rfl), trivial⟩
  rw [List.length_map]
  refine blkQ_n ?_
  refine thenQ_n ?_
  refine Wsr J J ?_
  refine Rv J J J (U_load1 J J J) J J ?_
  refine Rv J J J (U_assign J) J J ?_
  refine Rt J ?_
  refine W_ret J ?_
  exact retL (rlT J rl0) (by first | rfl | (simp only [packA]; rfl; first | done | rfl)) J
end Go.Proofs.Ythlolelbmhfdbaa
end

section
namespace Go.Proofs.Ythlolelbmhfdbaa
set_option maxRecDepth 20000
open Go.AE
section
variable {Z H : Nat} {la : List Bx} {S : List (Nat × Nat)}
end
theorem pie_e (s : Sk) (c : Option Nat) (hl : s.ls.length ≤ 1000000) (hbl : ∀ l ∈ s.ls, l.length ≤ 1000000) (a : Int) (hE : opS s [a] ≠ 0) : Pure Try.prog 29 [.agg [i64 s.h, i64 s.z, landsA s.ls c], i64 a] (.tup [i64 0, i64 (opS s [a])]) := by
  refine pure_of_body Try.func29 (c := body Try.f29) J (by simp [Try.ntmps29]) fun w0 Φ0 => ?_
  refine Wsr J J ?_
  refine Rv J J J (U_boxF J J J) J J ?_
  refine Rv J J J (U_assign J) J J ?_
  refine Rv J J J (U_assign J) J J ?_
  refine Rt J ?_
  refine Wsr J J ?_
  refine Rv J J J (U_load3 J J J J J) J J ?_
  refine Rv J J J (U_move J) J J ?_
  refine Rv J J J (U_buildSliceF (by rfl) (by decide) J J J) J J ?_
  refine Rv J J J (U_call J J (openE_p s c hl hbl [a] (some 1) (by first | assumption | omega | (simp; done) | (simp; omega)) hE) J) J J ?_
  refine Rv J J J (U_move J) J J ?_
  refine Rv J J J (U_extract J J) J J ?_
  refine Rv J J J (U_extract J J) J J ?_
  refine Rv J J J (U_assign J) J J ?_
  refine Rv J J J (U_assign J) J J ?_
  refine Rt J ?_
  refine W_seq J ?_
  refine Wsr J J ?_
  refine Rv J J J (U_move J) J J ?_
  refine Rv J J J (U_neq J J) J J ?_
  refine Rt J ?_
  refine WcondP J J (fun hc0 => ?_) (fun hc0 => absurd (hE) hc0)
  refine Wsr J J ?_
  refine Rv J J J (U_move J) J J ?_
  refine Rv J J J (U_assign J) J J ?_
  refine Rv J J J (U_assign J) J J ?_
  refine Rt J ?_
  refine W_ret J ?_
  refine thenQ_r ?_
  exact retL (rlT J (rlT J rl0)) J J
theorem pie_g (H Z : Nat) (ls : List (List Bx)) (c : Option Nat) (hc : chkS ⟨H, Z, ls⟩ = 0) (hv : VS ⟨H, Z, ls⟩ H Z) (a : Nat) (ha : a < ls.length) : Pure Try.prog 29 [.agg [i64 (H : Nat), i64 (Z : Nat), landsA ls c], i64 (a : Nat)] (.tup [i64 ((pieQ Z H ls[a] : Nat) : Int), i64 0]) := by
  have hv' := hv
  obtain ⟨_, _, hH, hZ1, hln, hlb, hbx⟩ := hv'
  simp only at hln hlb hbx
  have hZ := hZ1.2
  have hHZ : Z * H ≤ 1152 := Nat.mul_le_mul hZ hH.2
  have hHZc : H * Z = Z * H := Nat.mul_comm _ _
  refine pure_of_body Try.func29 (c := body Try.f29) J (by simp [Try.ntmps29]) fun w0 Φ0 => ?_
  refine Wsr J J ?_
  refine Rv J J J (U_boxF J J J) J J ?_
  refine Rv J J J (U_assign J) J J ?_
  refine Rv J J J (U_assign J) J J ?_
  refine Rt J ?_
  refine Wsr J J ?_
  refine Rv J J J (U_load3 J J J J J) J J ?_
  refine Rv J J J (U_move J) J J ?_
  refine Rv J J J (U_buildSliceF (by rfl) (by decide) J J J) J J ?_
  refine Rv J J J (U_call J J (openG_p H Z ls c hc hv [((a : Nat) : Int)] (some 1) (by first | assumption | omega | (simp; done) | (simp; omega)) (by first | assumption | (rw [inL1]; simp; omega) | (simp [inL]; omega))) J) J J ?_
  refine Rv J J J (U_move J) J J ?_
  refine Rv J J J (U_extract J J) J J ?_
  refine Rv J J J (U_extract J J) J J ?_
  refine Rv J J J (U_assign J) J J ?_
  refine Rv J J J (U_assign J) J J ?_
  refine Rt J ?_
  refine W_seq J ?_
  refine Wsr J J ?_
  refine Rv J J J (U_move J) J J ?_
  refine Rv J J J (U_neq J J) J J ?_
  refine Rt J ?_
  refine WcondP J J (fun h => absurd h (by decide)) (fun _ => ?_)
  refine W_skip J ?_
  refine thenQ_n ?_
  refine Wsr J J ?_
  refine Rv J J J (U_move J) J J ?_
  refine Rv J J J (U_move J) J J ?_
  refine Rv J J J (U_call J J (pieces_p H Z ls c a (by omega) (by omega) (by omega)) J) J J ?_
  refine Rv J J J (U_assign J) J J ?_
  refine Rv J J J (U_assign J) J J ?_
  refine Rt J ?_
  refine W_ret J ?_
  exact retL (rlT J (rlT J rl0)) J J
def pieR (s : Sk) (a : Int) : Int := if opS s [a] = 0 then (pieQ s.z.toNat s.h.toNat (lndQ s.ls a) : Nat) else 0
theorem pieR_g {H Z : Nat} {ls : List (List Bx)} (hc : chkS ⟨H, Z, ls⟩ = 0) {a : Nat} (ha : a < ls.length) : pieR ⟨H, Z, ls⟩ (a : Int) = (pieQ Z H ls[a] : Nat) := by
  rw [pieR, if_pos (opS_a hc ha), lnd_at ha]; rfl
theorem pieA_p (s : Sk) (c : Option Nat) (hl : s.ls.length ≤ 1000000) (hbl : ∀ l ∈ s.ls, l.length ≤ 1000000) (a : Int) : Pure Try.prog 29 [.agg [i64 s.h, i64 s.z, landsA s.ls c], i64 a] (.tup [i64 (pieR s a), i64 (opS s [a])]) := by
  by_cases hE : opS s [a] = 0
  · obtain ⟨H, Z, ls, rfl, hc, hv, hin⟩ := opS_ok hE
    obtain ⟨a, rfl, ha⟩ := in1_ok hin
    rw [pieR_g hc ha, hE]
    exact pie_g H Z ls c hc hv a ha
  · have e : pieR s a = 0 := if_neg hE
    rw [e]
    exact pie_e s c hl hbl a hE
end Go.Proofs.Ythlolelbmhfdbaa
end

section
namespace Go.Proofs.Ythlolelbmhfdbaa
set_option maxRecDepth 20000
open Go.AE
abbrev listA (l : List Int) : AV := intsA l none
abbrev listsA (l : List (List Int)) (c : Option Nat) : AV := .ros (l.map listA) l.length c
def goodT (nr begun : List Int) (t : Nat) : Bool := !(nr.any fun k => decide (begun.getD k.toNat 0 = (t : Int)))
def pntQ (near : List (List Int)) (most : Nat) : Nat → List Int → Nat → List Int
  | 0, begun, _ => begun
  | d + 1, begun, used => ((List.range (min (used + 1) most)).findSome? fun t => bif goodT (near.getD begun.length []) begun t then bif (pntQ near most d (begun ++ [(t : Int)]) (max used (t + 1))).length == near.length then some (pntQ near most d (begun ++ [(t : Int)]) (max used (t + 1))) else none else none).getD []
def pntC (near : List (List Int)) (most d : Nat) (begun : List Int) (used t : Nat) : Option (List Int) := bif goodT (near.getD begun.length []) begun t then bif (pntQ near most d (begun ++ [(t : Int)]) (max used (t + 1))).length == near.length then some (pntQ near most d (begun ++ [(t : Int)]) (max used (t + 1))) else none else none
theorem pntQ_succ {near : List (List Int)} {most d : Nat} {begun : List Int} {used : Nat} : pntQ near most (d + 1) begun used = ((List.range (min (used + 1) most)).findSome? (pntC near most d begun used)).getD [] := rfl
theorem some_hit {α : Type} {f : Nat → Option α} {m t : Nat} {x : α} (ht : t < m) (h : ∀ j, j < t → f j = none) (e : f t = some x) : (List.range m).findSome? f = some x := by
  rw [List.findSome?_eq_some_iff]
  refine ⟨List.range t, t, (List.range' (t + 1) (m - (t + 1))), ?_, e, fun a ha => h a (List.mem_range.1 ha)⟩
  rw [List.range_eq_range', List.range_eq_range']
  have h1 : List.range' 0 m = List.range' 0 t ++ List.range' (0 + 1 * t) (m - t) := by rw [List.range'_append]; congr 1; omega
  rw [h1, show m - t = (m - (t + 1)) + 1 by omega, List.range'_succ]; simp
theorem some_none {α : Type} {f : Nat → Option α} {m : Nat} (h : ∀ j, j < m → f j = none) : (List.range m).findSome? f = none := by
  rw [List.findSome?_eq_none_iff]; exact fun x hx => h x (List.mem_range.1 hx)
theorem pnt_bad {near : List (List Int)} {most d : Nat} {begun : List Int} {used t : Nat} (h : goodT (near.getD begun.length []) begun t = false) : pntC near most d begun used t = none := by rw [pntC, h]; rfl
theorem pnt_no {near : List (List Int)} {most d : Nat} {begun : List Int} {used t : Nat} (h : goodT (near.getD begun.length []) begun t = true) (h2 : (pntQ near most d (begun ++ [(t : Int)]) (max used (t + 1))).length ≠ near.length) : pntC near most d begun used t = none := by
  rw [pntC, h, show ((pntQ near most d (begun ++ [(t : Int)]) (max used (t + 1))).length == near.length) = false by simpa using h2]; rfl
theorem pnt_yes {near : List (List Int)} {most d : Nat} {begun : List Int} {used t : Nat} (h : goodT (near.getD begun.length []) begun t = true) (h2 : (pntQ near most d (begun ++ [(t : Int)]) (max used (t + 1))).length = near.length) : pntC near most d begun used t = some (pntQ near most d (begun ++ [(t : Int)]) (max used (t + 1))) := by
  rw [pntC, h, show ((pntQ near most d (begun ++ [(t : Int)]) (max used (t + 1))).length == near.length) = true by simpa using h2]; rfl
theorem good_idx {nr begun : List Int} {t : Nat} : (decide (0 ≤ idxI (fun k => decide (begun.getD k.toNat 0 = (t : Int))) nr)) = !goodT nr begun t := by
  rw [idx_any, goodT, Bool.not_not]
theorem first_p {f : FuncId} [FnOk Try.prog f] {ca : List AV} (hca : dataL ca) (p : Int → Bool) (l : List Int) (c : Option Nat) (hl : l.length ≤ 1000000) (hp : ∀ x ∈ l, Pure Try.prog f (i64 x :: ca) (.bool (p x))) : Pure Try.prog 105 [intsA l c, .fn f [] ca] (i64 (idxI p l)) := by
  refine pure_of_body Try.func105 (c := body Try.f105) J (by simp [Try.ntmps105]) fun w0 Φ0 => ?_
  refine Wsr J J ?_
  refine Rv J J J (U_assign J) J J ?_
  refine Rt J ?_
  refine W_seq J ?_
  refine Wsr J J ?_
  refine Rv J J J (U_move J) J J ?_
  refine Rv J J J (U_lenOf J len_ros) J J ?_
  refine Rv J J J (U_move J) J J ?_
  refine Rt J ?_
  refine W_block J ?_
  refine LoopTo (T' := [(1, .fn f [] ca), (7, .ros (l.map i64) l.length c), (8, i64 ((l.length : Nat) : Int)), (9, i64 ((0 : Nat) : Int))]) (H' := []) (n := 0) J (fun mz_ qz_ => ∃ (k : Nat), k ≤ l.length ∧ (∀ j (hj : j < l.length), j < k → p l[j] = false) ∧ mz_ = l.length - k ∧ qz_ = ⟨[(1, .fn f [] ca), (7, .ros (l.map i64) l.length c), (8, i64 ((l.length : Nat) : Int)), (9, i64 ((k : Nat) : Int))], [], 0, []⟩) ⟨0, (by omega), (fun j hj h => absurd h (Nat.not_lt_zero _)), J, J⟩ id ⟨eD J (fnD hca), eD J J, eD J J, eD J J, trivial⟩ trivial J J J J (fun _ _ => J) ?_
  rintro _ _ ⟨k, hi0_0, hi0_1, rfl, rfl⟩
  refine Wsr J J ?_
  refine Rv J J J (U_lss J J) J J ?_
  refine Rt J ?_
  refine W_seq J ?_
  refine WcondP J J (fun hc0 => ?_) (fun hc0 => ?_)
  · have hck : k < l.length := by omega
    refine W_skip J ?_
    refine thenQ_n ?_
    refine W_seq J ?_
    refine W_block J ?_
    refine Wsr J J ?_
    refine Rv J J J (U_move J) J J ?_
    have hx1 : k < l.length := by omega
    refine Rv J J J (U_indexR (j := k) J J J hx1) J J ?_
    refine Rv J J J (U_load1 J J (getM hx1)) J J ?_
    refine Rv J J J (U_assign J) J J ?_
    refine Rv J J J (U_assign J) J J ?_
    refine Rt J ?_
    refine Wsr J J ?_
    refine Rv J J J (U_move J) J J ?_
    refine Rv J J J (U_move J) J J ?_
    refine Rv J J J (U_call J J (hp _ (List.getElem_mem hck)) (dataL_cons.2 ⟨J, hca⟩)) J J ?_
    refine Rt J ?_
    refine Wcond J J (fun hc1 => ?_) (fun hc1 => ?_)
    · refine Wsr J J ?_
      refine Rv J J J (U_move J) J J ?_
      refine Rv J J J (U_assign J) J J ?_
      refine Rt J ?_
      refine W_ret J ?_
      refine blkQ_r ?_
      refine thenQ_r ?_
      refine thenQ_r ?_
      refine blkQ_r ?_
      refine thenQ_r ?_
      exact retL (rlT J rl0) (by first | rfl | (simp only [packA]; rw [idx_hit hck hi0_1 hc1]; first | done | rfl) | (simp only [packA]; rw [idx_end fun j hj => hi0_1 j hj (by omega)]; first | done | rfl)) J
    · have hc1' := Bool.eq_false_iff.1 hc1
      refine W_skip J ?_
      refine blkQ_n ?_
      refine thenQ_n ?_
      refine W_reg J ?_
      refine Rv J J J (U_add J J (w64e (m := ((k + 1 : Nat) : Int)) (by omega) (by omega) (by omega))) J J ?_
      refine Rv J J J (U_move J) J J ?_
      refine Rt J ?_
      exact againTo (T' := [(1, .fn f [] ca), (7, .ros (l.map i64) l.length c), (8, i64 ((l.length : Nat) : Int)), (9, i64 (((k + 1) : Nat) : Int))]) (H' := []) (n := 0) (l.length - (k + 1)) ⟨k + 1, (by omega), (by intro j hj h; rcases Nat.lt_succ_iff_lt_or_eq.1 h with h | rfl; exact hi0_1 j hj h; simpa using hc1), J, J⟩ (by omega) id ⟨eD J (fnD hca), eD J J, eD J J, eD J J, trivial⟩ trivial J J J J (fun _ _ => J)
  · refine W_exit J ?_
    refine thenQ_x ?_
    refine thenQ_x ?_
    refine blkQ_x J ?_
    refine thenQ_n ?_
    refine Wsr J J ?_
    refine Rv J J J (U_assign J) J J ?_
    refine Rt J ?_
    refine W_ret J ?_
    exact retL (rlT J rl0) (by first | rfl | (simp only [packA]; rw [idx_hit hck hi0_1 hc1]; first | done | rfl) | (simp only [packA]; rw [idx_end fun j hj => hi0_1 j hj (by omega)]; first | done | rfl)) J
theorem same_p (begun : List Int) (c : Option Nat) (t : Nat) (x : Int) (hx : 0 ≤ x ∧ x < begun.length) : Pure Try.prog 108 [i64 x, .rop [intsA begun c] 0, .rop [i64 (t : Nat)] 0] (.bool (decide (begun.getD x.toNat 0 = (t : Int)))) := by
  refine pure_of_body Try.func108 (c := body Try.f108) J (by simp [Try.ntmps108]) fun w0 Φ0 => ?_
  refine Wsr J J ?_
  refine Rv J J J (U_assign J) J J ?_
  refine Rt J ?_
  refine W_seq J ?_
  refine Wdraw J (by kernel_rfl) (by kernel_rfl) ?_
  refine Dv J J J (U_load1 J J J) J J ?_
  refine Dv J J J (U_move J) J J ?_
  have hx1 : (x).toNat < begun.length := by omega
  refine Dv J J J (U_indexR (j := (x).toNat) J J (by omega) hx1) J J ?_
  refine Dv J J J (U_load1 J J (getM hx1)) J J ?_
  refine Dv J J J (U_load1 J J J) J J ?_
  refine Dv J J J (U_eql J J) J J ?_
  refine Dv J J J (U_assign J) J J ?_
  refine Dr.nil J ?_
  refine thenQ_n ?_
  refine W_ret J ?_
  exact retL (rlT J rl0) (by first | rfl | (simp only [packA]; rw [List.getD_eq_getElem?_getD, List.getElem?_eq_getElem (by omega)]; rfl; first | done | rfl)) J
def NrOk (near : List (List Int)) : Prop := ∀ i (hi : i < near.length), near[i].length ≤ near.length ∧ ∀ x ∈ near[i], 0 ≤ x ∧ x < (i : Int)
theorem pnt_step (near : List (List Int)) (e : Option Nat) (hn : near.length ≤ 10) (hok : NrOk near) (most : Nat) (hm : most ≤ 11) (d : Nat) (ih : ∀ (begun : List Int) (c : Option Nat) (used : Nat), begun.length + d = near.length → used ≤ 11 → Pure Try.prog 104 [listsA near e, intsA begun c, i64 (used : Nat), i64 (most : Nat)] (listA (pntQ near most d begun used))) (begun : List Int) (c : Option Nat) (used : Nat) (hl : begun.length + (d + 1) = near.length) (hu : used ≤ 11) : Pure Try.prog 104 [listsA near e, intsA begun c, i64 (used : Nat), i64 (most : Nat)] (listA (pntQ near most (d + 1) begun used)) := by
  have hbn : begun.length < near.length := by omega
  have hnr : near.getD begun.length [] = near[begun.length] := by rw [List.getD_eq_getElem?_getD, List.getElem?_eq_getElem hbn]; rfl
  have hnl : near[begun.length].length ≤ 1000000 := by have := (hok _ hbn).1; omega
  have hnb := (hok _ hbn).2
  refine pure_of_body Try.func104 (c := body Try.f104) J (by simp [Try.ntmps104]) fun w0 Φ0 => ?_
  refine Wsr J J ?_
  refine Rv J J J (U_boxF J J J) J J ?_
  refine Rv J J J (U_assign J) J J ?_
  refine Rt J ?_
  refine W_seq J ?_
  refine Wsr J J ?_
  refine Rv J J J (U_load1 J J J) J J ?_
  refine Rv J J J (U_lenOf J len_ros) J J ?_
  refine Rv J J J (U_move J) J J ?_
  refine Rv J J J (U_lenOf J len_ros) J J ?_
  refine Rv J J J (OpU.toB (U_eql J J) (decide_eq_false (by omega))) J J ?_
  refine Rt J ?_
  refine Wcond J J (fun h => nomatch h) (fun _ => ?_)
  refine W_skip J ?_
  refine thenQ_n ?_
  refine W_seq J ?_
  refine Wsr J J ?_
  refine Ra J J J (U_alloc) J J J ?_
  refine Rn J J J (U_store1 J J J J) J ?_
  refine Rt J ?_
  refine W_block J ?_
  refine LoopTo (T' := [(0, .ros (near.map listA) near.length e), (2, i64 ((used : Nat) : Int)), (3, i64 ((most : Nat) : Int)), (5, .rop [.ros (begun.map i64) begun.length c] 0), (9, .ptr 0 0)]) (H' := [(0, some (.cells [i64 ((0 : Nat) : Int)] 3))]) (n := 1) J (fun mz_ qz_ => ∃ (t : Nat), ((∀ j, j < t → pntC near most d begun used j = none)) ∧ t ≤ min (used + 1) most ∧ mz_ = min (used + 1) most - t ∧ qz_ = ⟨[(0, .ros (near.map listA) near.length e), (2, i64 ((used : Nat) : Int)), (3, i64 ((most : Nat) : Int)), (5, .rop [.ros (begun.map i64) begun.length c] 0), (9, .ptr 0 0)], [(0, some (.cells [i64 ((t : Nat) : Int)] 3))], 1, []⟩) ⟨0, (fun j h => absurd h (Nat.not_lt_zero _)), (Nat.zero_le _), J, J⟩ id ⟨eD J J, eD J J, eD J J, eD J J, e_ J J, trivial⟩ ⟨rD J J J, trivial⟩ J J J J (fun _ _ => J) ?_
  rintro _ _ ⟨t, hi0_0, hi0_1, rfl, rfl⟩
  refine W_seq J ?_
  refine W_seq J ?_
  refine Wjoin ⟨[(0, .ros (near.map listA) near.length e), (2, i64 ((used : Nat) : Int)), (3, i64 ((most : Nat) : Int)), (5, .rop [.ros (begun.map i64) begun.length c] 0), (9, .ptr 0 0), (24, .bool ((decide (((t : Nat) : Int) ≤ ((used : Nat) : Int))) && (decide (((t : Nat) : Int) < ((most : Nat) : Int)))))], [(0, some (.cells [i64 ((t : Nat) : Int)] 3))], 1, []⟩ ?_ ?_
  · refine W_reg J ?_
    refine Rv J J J (U_load1 J J J) J J ?_
    refine Rv J J J (U_move J) J J ?_
    refine Rv J J J (U_leq J J) J J ?_
    refine Rv J J J (U_move J) J J ?_
    refine Rsplit (t := 20) J (fun hg1 => ?_) (fun hg1 => ?_)
    · rw [hg1]
      have hg1' : ((t : Nat) : Int) ≤ ((used : Nat) : Int) := of_decide_eq_true hg1
      refine Rv J J J (U_load1 J J J) J J ?_
      refine Rv J J J (U_move J) J J ?_
      refine Rv J J J (U_lss J J) J J ?_
      refine Rv J J J (U_pick_t J J) J J ?_
      refine Re J ?_
      exact joinTo id ⟨eD J J, eD J J, eD J J, eD J J, e_ J J, eD J J, trivial⟩ ⟨rD J J J, trivial⟩ J J J J (fun _ _ => J)
    · rw [hg1]
      have hg1' : ¬ (((t : Nat) : Int) ≤ ((used : Nat) : Int)) := of_decide_eq_false hg1
      refine Rs J J J J J ?_
      refine Rs J J J J J ?_
      refine Rs J J J J J ?_
      refine Rv J J J (U_pick_f J J) J J ?_
      refine Re J ?_
      exact joinTo id ⟨eD J J, eD J J, eD J J, eD J J, e_ J J, eD J J, trivial⟩ ⟨rD J J J, trivial⟩ J J J J (fun _ _ => J)
  refine thenQ_n ?_
  refine Wcond J J (fun hc1 => ?_) (fun hc1 => ?_)
  · have hct : t < min (used + 1) most := by simp at hc1; omega
    refine W_skip J ?_
    refine thenQ_n ?_
    refine W_seq J ?_
    refine W_block J ?_
    refine W_seq J ?_
    refine W_seq J ?_
    refine WfrN 0 J J (T' := [(0, .ros (near.map listA) near.length e), (2, i64 ((used : Nat) : Int)), (3, i64 ((most : Nat) : Int)), (5, .rop [.ros (begun.map i64) begun.length c] 0), (9, .rop [i64 ((t : Nat) : Int)] 0)]) (H' := []) ⟨⟨_, J, J⟩, ⟨_, J, J⟩, ⟨_, J, J⟩, ⟨_, J, J⟩, ⟨_, J, J⟩, trivial⟩ trivial ?_
    refine W_reg J ?_
    refine Rv J J J (U_move J) J J ?_
    refine Rv J J J (U_load1 J J J) J J ?_
    refine Rv J J J (U_lenOf J len_ros) J J ?_
    have hx2 : begun.length < near.length := by omega
    refine Rv J J J (U_indexR (j := begun.length) J J J hx2) J J ?_
    refine Rv J J J (U_load1 J J (getM hx2)) J J ?_
    refine Rv J J J (U_makeFunc J J) J J ?_
    refine Rv J J J (U_call J J (first_p (f := 108) (ca := [.rop [intsA begun c] 0, .rop [i64 (t : Nat)] 0]) J (fun k => decide (begun.getD k.toNat 0 = (t : Int))) near[begun.length] none hnl (fun x hx => same_p begun c t x (hnb x hx))) J) J J ?_
    refine Rv J J J (U_geq J J) J J ?_
    refine Rt J ?_
    refine WcondP J J (fun hc2 => ?_) (fun hc2 => ?_)
    · have hgd : goodT (near.getD begun.length []) begun t = false := by rw [hnr, ← Bool.not_not (goodT _ _ _), ← good_idx, decide_eq_true hc2]; rfl
      refine W_exit J ?_
      refine thenQ_x ?_
      refine blkQ_x J ?_
      refine thenQ_n ?_
      refine W_seq J ?_
      refine Wsr J J ?_
      refine Rv J J J (U_load1 J J J) J J ?_
      refine Rt J ?_
      refine W_reg J ?_
      refine Ra J J J (U_alloc) J J J ?_
      refine Rn J J J (U_store1 J J J J) J ?_
      refine Rt J ?_
      refine W_reg J ?_
      refine Rv J J J (U_load1 J J J) J J ?_
      refine Rv J J J (U_add J J (w64e (m := ((t + 1 : Nat) : Int)) (by omega) (by omega) (by omega))) J J ?_
      refine Rn J J J (U_store1 J J J J) J ?_
      refine Rt J ?_
      exact againTo (T' := [(0, .ros (near.map listA) near.length e), (2, i64 ((used : Nat) : Int)), (3, i64 ((most : Nat) : Int)), (5, .rop [.ros (begun.map i64) begun.length c] 0), (9, .ptr 0 0)]) (H' := [(0, some (.cells [i64 (((t + 1) : Nat) : Int)] 3))]) (n := 1) (min (used + 1) most - (t + 1)) ⟨t + 1, (by intro j h; rcases Nat.lt_succ_iff_lt_or_eq.1 h with h | rfl; exact hi0_0 j h; first | exact pnt_bad hgd | exact pnt_no hgd hln), (by omega), J, J⟩ (by omega) (mapN [1]) ⟨eD J J, eD J J, eD J J, eD J J, e_ J J, trivial⟩ ⟨rD J J J, trivial⟩ J J J J (fun _ h => absurd h (Nat.not_lt_zero _))
    · have hgd : goodT (near.getD begun.length []) begun t = true := by rw [hnr, ← Bool.not_not (goodT _ _ _), ← good_idx, decide_eq_false hc2]; rfl
      refine W_skip J ?_
      refine thenQ_n ?_
      refine W_seq J ?_
      refine WdrawL [36, 37, 38, 39, 40, 42, 46, 50] J (by kernel_rfl) (by kernel_rfl) ?_
      refine Dv J J J (U_move J) J J ?_
      refine Dv J J J (U_load1 J J J) J J ?_
      refine Dv J J J (U_load1 J J J) J J ?_
      refine Dv J J J (U_lenOf J len_ros) J J ?_
      refine Dv J J J (U_load1 J J J) J J ?_
      refine Dv J J J (U_lenOf J len_ros) J J ?_
      refine Dv J J J (U_sliceR3 J J J (by omega)) J J ?_
      refine Dv J J J (U_load1 J J J) J J ?_
      refine Dv J J J (U_buildSliceF (by rfl) (by decide) J J J) J J ?_
      refine Da J J J (OpU.frz (b := 1) (U_appR (m := 0) (cs' := (begun ++ [((t : Nat) : Int)]).map i64) (n' := (begun ++ [((t : Nat) : Int)]).length) J J (map_len1 _) J (by omega) (by omega) (appM _ _) (len1 _ _)) J (by simp) (mapD (fun _ => J) _) (Nat.le_refl _) (Nat.lt_succ_self _)) J J J J ?_
      refine Dv J J J (U_move J) J J ?_
      refine Dv J J J (U_load1 J J J) J J ?_
      refine Dv J J J (U_add J J (w64e (m := ((t + 1 : Nat) : Int)) (by omega) (by omega) (by omega))) J J ?_
      refine Dv J J J (U_max (m := (((max used (t + 1)) : Nat) : Int)) J J (by omega)) J J ?_
      refine Dv J J J (U_move J) J J ?_
      refine Dv J J J (U_call J J (ih ((begun ++ [((t : Nat) : Int)])) none (max used (t + 1)) (by simp; omega) (by omega)) J) J J ?_
      refine Dv J J J (U_assign J) J J ?_
      refine Dr.nil J ?_
      refine thenQ_n ?_
      refine Wsr J J ?_
      refine Rv J J J (U_move J) J J ?_
      refine Rv J J J (U_lenOf J len_ros) J J ?_
      refine Rv J J J (U_move J) J J ?_
      refine Rv J J J (U_lenOf J len_ros) J J ?_
      refine Rv J J J (U_eql J J) J J ?_
      refine Rt J ?_
      refine WcondP J J (fun hc3 => ?_) (fun hc3 => ?_)
      · have hln : (pntQ near most d (begun ++ [(t : Int)]) (max used (t + 1))).length = near.length := by omega
        have hcc := pnt_yes hgd hln
        refine Wsr J J ?_
        refine Rv J J J (U_move J) J J ?_
        refine Rv J J J (U_assign J) J J ?_
        refine Rt J ?_
        refine W_ret J ?_
        refine blkQ_r ?_
        refine thenQ_r ?_
        refine thenQ_r ?_
        refine blkQ_r ?_
        refine thenQ_r ?_
        exact retL (rlT J rl0) (by first | rfl | (simp only [packA]; rw [pntQ_succ, some_hit hct hi0_0 hcc]; first | done | rfl) | (simp only [packA]; rw [pntQ_succ, some_none fun j hj => hi0_0 j (by omega)]; first | done | rfl)) J
      · have hln : (pntQ near most d (begun ++ [(t : Int)]) (max used (t + 1))).length ≠ near.length := by omega
        refine W_skip J ?_
        refine blkQ_n ?_
        refine thenQ_n ?_
        refine W_seq J ?_
        refine Wsr J J ?_
        refine Rv J J J (U_load1 J J J) J J ?_
        refine Rt J ?_
        refine W_reg J ?_
        refine Ra J J J (U_alloc) J J J ?_
        refine Rn J J J (U_store1 J J J J) J ?_
        refine Rt J ?_
        refine W_reg J ?_
        refine Rv J J J (U_load1 J J J) J J ?_
        refine Rv J J J (U_add J J (w64e (m := ((t + 1 : Nat) : Int)) (by omega) (by omega) (by omega))) J J ?_
        refine Rn J J J (U_store1 J J J J) J ?_
        refine Rt J ?_
        exact againTo (T' := [(0, .ros (near.map listA) near.length e), (2, i64 ((used : Nat) : Int)), (3, i64 ((most : Nat) : Int)), (5, .rop [.ros (begun.map i64) begun.length c] 0), (9, .ptr 0 0)]) (H' := [(0, some (.cells [i64 (((t + 1) : Nat) : Int)] 3))]) (n := 1) (min (used + 1) most - (t + 1)) ⟨t + 1, (by intro j h; rcases Nat.lt_succ_iff_lt_or_eq.1 h with h | rfl; exact hi0_0 j h; first | exact pnt_bad hgd | exact pnt_no hgd hln), (by omega), J, J⟩ (by omega) (mapN [2]) ⟨eD J J, eD J J, eD J J, eD J J, e_ J J, trivial⟩ ⟨rD J J J, trivial⟩ J J J J (fun _ h => absurd h (Nat.not_lt_zero _))
  · have hc1' := Bool.eq_false_iff.1 hc1
    have hend : min (used + 1) most ≤ t := by simp at hc1; omega
    refine W_exit J ?_
    refine thenQ_x ?_
    refine thenQ_x ?_
    refine blkQ_x J ?_
    refine thenQ_n ?_
    refine Wsr J J ?_
    refine Rv J J J (U_assign J) J J ?_
    refine Rt J ?_
    refine WweakT (j := 8) J (le_nils (cs := [])) ?_
    refine W_ret J ?_
    exact retL (rlT J rl0) (by first | rfl | (simp only [packA]; rw [pntQ_succ, some_hit hct hi0_0 hcc]; first | done | rfl) | (simp only [packA]; rw [pntQ_succ, some_none fun j hj => hi0_0 j (by omega)]; first | done | rfl)) J
theorem pnt_zero (near : List (List Int)) (e : Option Nat) (hn : near.length ≤ 10) (hok : NrOk near) (most : Nat) (hm : most ≤ 11) (begun : List Int) (c : Option Nat) (used : Nat) (hl : begun.length = near.length) : Pure Try.prog 104 [listsA near e, intsA begun c, i64 (used : Nat), i64 (most : Nat)] (listA begun) := by
  refine pure_of_body Try.func104 (c := body Try.f104) J (by simp [Try.ntmps104]) fun w0 Φ0 => ?_
  refine Wsr J J ?_
  refine Rv J J J (U_boxF J J J) J J ?_
  refine Rv J J J (U_assign J) J J ?_
  refine Rt J ?_
  refine W_seq J ?_
  refine Wsr J J ?_
  refine Rv J J J (U_load1 J J J) J J ?_
  refine Rv J J J (U_lenOf J len_ros) J J ?_
  refine Rv J J J (U_move J) J J ?_
  refine Rv J J J (U_lenOf J len_ros) J J ?_
  refine Rv J J J (OpU.toB (U_eql J J) (decide_eq_true (by omega))) J J ?_
  refine Rt J ?_
  refine Wcond J J (fun _ => ?_) (fun h => nomatch h)
  refine Wsr J J ?_
  refine Rv J J J (U_load1 J J J) J J ?_
  refine Rv J J J (U_assign J) J J ?_
  refine Rt J ?_
  refine WweakT (j := 8) J le_cap ?_
  refine W_ret J ?_
  refine thenQ_r ?_
  exact retL (rlT J rl0) J J
theorem paint_p (near : List (List Int)) (e : Option Nat) (hn : near.length ≤ 10) (hok : NrOk near) (most : Nat) (hm : most ≤ 11) : ∀ (d : Nat) (begun : List Int) (c : Option Nat) (used : Nat), begun.length + d = near.length → used ≤ 11 → Pure Try.prog 104 [listsA near e, intsA begun c, i64 (used : Nat), i64 (most : Nat)] (listA (pntQ near most d begun used))
  | 0, begun, c, used, h, _ => pnt_zero near e hn hok most hm begun c used (by omega)
  | d + 1, begun, c, used, h, hu => pnt_step near e hn hok most hm d (fun b c u h1 h2 => paint_p near e hn hok most hm d b c u h1 h2) begun c used h hu
end Go.Proofs.Ythlolelbmhfdbaa
end

section
namespace Go.Proofs.Ythlolelbmhfdbaa
set_option maxRecDepth 20000
open Go.AE
def difK (l : List Int) (k : Nat) : Nat := ((List.range k).filter fun i => !((l.take i).any fun x => decide (x = l.getD i 0))).length
def difQ (l : List Int) : Nat := difK l l.length
theorem difK_le {l : List Int} {k : Nat} : difK l k ≤ k := Nat.le_trans (List.length_filter_le _ _) (by simp)
theorem difK_t {l : List Int} {k : Nat} (hk : k < l.length) (h : ∀ j (hj : j < l.length), j < k → l[j] ≠ l[k]) : difK l (k + 1) = difK l k + 1 := by
  have e : l.getD k 0 = l[k] := by rw [List.getD_eq_getElem?_getD, List.getElem?_eq_getElem hk]; rfl
  have : ((l.take k).any fun x => decide (x = l.getD k 0)) = false := by
    rw [List.any_eq_false]
    intro x hx
    obtain ⟨j, hj, rfl⟩ := List.getElem_of_mem hx
    rw [e]; simp only [decide_eq_true_eq]
    rw [List.length_take] at hj
    rw [List.getElem_take]; exact h j (by omega) (by omega)
  rw [difK, List.range_succ, List.filter_append, List.length_append, List.filter_cons_of_pos (by rw [this]; rfl)]; rfl
theorem difK_f {l : List Int} {k j : Nat} (hk : k < l.length) (hj : j < k) (h : l[j] = l[k]) : difK l (k + 1) = difK l k := by
  have e : l.getD k 0 = l[k] := by rw [List.getD_eq_getElem?_getD, List.getElem?_eq_getElem hk]; rfl
  have : ((l.take k).any fun x => decide (x = l.getD k 0)) = true := by
    rw [List.any_eq_true]
    exact ⟨l[j], by rw [← List.getElem_take (h := by simp; omega) (j := k)]; exact List.getElem_mem _, by rw [e]; simpa using h⟩
  rw [difK, List.range_succ, List.filter_append, List.length_append, List.filter_cons_of_neg (by rw [this]; simp)]; rfl
end Go.Proofs.Ythlolelbmhfdbaa
end

section
namespace Go.Proofs.Ythlolelbmhfdbaa
set_option maxRecDepth 20000
open Go.AE
def nearC (D : List (List Int)) (x : AV) (m : Nat) : List AV := D.map listA ++ x :: List.replicate m .nils
def nearD (D : List (List Int)) (m : Nat) : List AV := D.map listA ++ List.replicate m .nils
section
variable {D : List (List Int)} {x y : AV} {m i n b z : Nat} {σ : Nat → Nat}
theorem near_split {k : Nat} (h : k = m + 1) : nearD D k = nearC D .nils m := by subst h; simp [nearD, nearC, List.replicate_succ]
theorem near_len : (nearC D x m).length = D.length + 1 + m := by simp [nearC]; omega
theorem near_get (h : D.length = i) : (nearC D x m)[0 + i * 1]? = some x := by
  subst h; unfold nearC
  rw [List.getElem?_append_right (by simp)]; simp
theorem near_set (h : D.length = i) : setC (nearC D x m) (0 + i * 1) [y] = nearC D y m := by
  subst h
  simp [setC, nearC, List.set_append]
theorem renL_app : ∀ (l l' : List AV), renL σ (l ++ l') = renL σ l ++ renL σ l'
  | [], _ => rfl
  | v :: l, l' => by simp only [List.cons_append, renL, renL_app l l']
theorem nils_data : ∀ m, dataL (List.replicate m AV.nils)
  | 0 => rfl
  | m + 1 => dataL_cons.2 ⟨rfl, nils_data m⟩
theorem near_data : dataL (nearD D m) := dataL_append.2 ⟨mapD (fun _ => rfl) _, nils_data m⟩
theorem near_ren : renL σ (nearC D x m) = nearC D (x.ren σ) m := by
  unfold nearC
  rw [renL_app, renL_data _ (mapD (fun _ => rfl) D)]
  simp only [renL, renL_data _ (nils_data m)]
theorem belbL_app : ∀ (l l' : List AV), belbL n (l ++ l') = (belbL n l && belbL n l')
  | [], _ => rfl
  | v :: l, l' => by simp only [List.cons_append, belbL, belbL_app l l', Bool.and_assoc]
theorem near_belb (h : x.belb n = true) : belbL n (nearC D x m) = true := by
  unfold nearC
  rw [belbL_app, belbL_data _ (mapD (fun _ => rfl) D)]
  simp only [belbL, belbL_data _ (nils_data m), h]; rfl
theorem rNear {t : TypeId} {H : AH} {σ' : Nat → Nat} (h : gt H (σ b) = some (.cells (nearC D (x.ren σ) m) t)) (hb : b.blt n = true) (hx : x.belb n = true) : rowTo σ n b (some (.cells (nearC D x m) t)) H := fun _ e => by
  cases e
  refine ⟨by rw [h]; simp only [ABlk.ren, near_ren], ltOf hb, ?_⟩
  simp only [ABlk.belb]; exact near_belb hx
theorem FrOL_app {cs : List AV} {a a' c c' : List AV} (h : FrOL b n z cs a a') (k : FrOL b n z cs c c') : FrOL b n z cs (a ++ c) (a' ++ c') := by
  induction h with
  | nil => exact k
  | cons h1 _ ih => exact .cons h1 ih
theorem near_fr {W : List Int} : FrOL b W.length z (W.map i64) (nearC D (.out b W.length z) m) (nearD (D ++ [W]) m) := by
  have e : nearD (D ++ [W]) m = D.map listA ++ listA W :: List.replicate m .nils := by simp [nearD]
  rw [e]
  exact FrOL_app (.same (nobL_data _ (mapD (fun _ => rfl) D))) (.cons .out (.same (nobL_data _ (nils_data m))))
theorem leL_app {a a' c : List AV} (h : leL a a') : ∀ (l : List AV), leL (l ++ a) (l ++ a')
  | [] => h
  | v :: l => leL_cons (le_refl v) (leL_app (c := c) h l)
theorem near_le : leL (nearC D .nils m) (nearC D (.out b 0 z) m) := leL_app (c := []) (leL_cons le_nils_out (leL_refl _)) _
theorem near_end {k : Nat} (h : k = 0) : nearD D k = D.map listA := by subst h; simp [nearD]
end
theorem replF {n : Nat} {v : AV} : (List.replicate n [v]).flatten = List.replicate n v := by
  induction n with
  | zero => rfl
  | succ n ih => rw [List.replicate_succ, List.flatten_cons, ih, List.replicate_succ]; rfl
def ntrR (Z H : Nat) (ls : List (List Bx)) (x k : Nat) : List Int := ((List.range k).filter fun y => nrQ Z H (ls.getD x []) (ls.getD y [])).map fun (y : Nat) => (y : Int)
def ntrK (Z H : Nat) (ls : List (List Bx)) (i : Nat) : List (List Int) := (List.range i).map fun x => ntrR Z H ls x x
theorem ntrK_succ {Z H i : Nat} {ls : List (List Bx)} : ntrK Z H ls (i + 1) = ntrK Z H ls i ++ [ntrR Z H ls i i] := by simp [ntrK, List.range_succ]
theorem ntrK_len {Z H i : Nat} {ls : List (List Bx)} : (ntrK Z H ls i).length = i := by simp [ntrK]
theorem ntrR_len {Z H i k : Nat} {ls : List (List Bx)} : (ntrR Z H ls i k).length ≤ k := by rw [ntrR, List.length_map]; exact Nat.le_trans (List.length_filter_le _ _) (by simp)
theorem ntrR_t {Z H i k : Nat} {ls : List (List Bx)} (h : nrQ Z H (ls.getD i []) (ls.getD k []) = true) : ntrR Z H ls i (k + 1) = ntrR Z H ls i k ++ [((k : Nat) : Int)] := by
  rw [ntrR, List.range_succ, List.filter_append, List.map_append, List.filter_cons_of_pos (by exact h)]; rfl
theorem ntrR_f {Z H i k : Nat} {ls : List (List Bx)} (h : nrQ Z H (ls.getD i []) (ls.getD k []) = false) : ntrR Z H ls i (k + 1) = ntrR Z H ls i k := by
  rw [ntrR, List.range_succ, List.filter_append, List.map_append, List.filter_cons_of_neg (by rw [h]; simp)]; exact List.append_nil _
theorem ntr_ok {Z H n : Nat} {ls : List (List Bx)} : NrOk (ntrK Z H ls n) := fun i hi => by
  have hi' : i < n := by rw [ntrK_len] at hi; exact hi
  have e : (ntrK Z H ls n)[i] = ntrR Z H ls i i := by simp [ntrK]
  rw [e, ntrK_len]
  refine ⟨Nat.le_trans ntrR_len (by omega), fun x hx => ?_⟩
  obtain ⟨y, hy, rfl⟩ := List.mem_map.1 hx
  have := List.mem_range.1 (List.mem_filter.1 hy).1
  omega
def pnC (near : List (List Int)) (most : Nat) : Option (List Int) := bif (pntQ near most near.length [] 0).length == near.length then some (pntQ near most near.length [] 0) else none
def tinQ (near : List (List Int)) : List Int := ((List.range (near.length + 1)).findSome? (pnC near)).getD []
theorem pnC_yes {near : List (List Int)} {most : Nat} (h : (pntQ near most near.length [] 0).length = near.length) : pnC near most = some (pntQ near most near.length [] 0) := by
  rw [pnC, show ((pntQ near most near.length [] 0).length == near.length) = true by simpa using h]; rfl
theorem pnC_no {near : List (List Int)} {most : Nat} (h : (pntQ near most near.length [] 0).length ≠ near.length) : pnC near most = none := by
  rw [pnC, show ((pntQ near most near.length [] 0).length == near.length) = false by simpa using h]; rfl
theorem paintN_p (near : List (List Int)) (e : Option Nat) (hn : near.length ≤ 10) (hok : NrOk near) (most : Nat) (hm : most ≤ 11) : Pure Try.prog 104 [listsA near e, .nils, i64 0, i64 (most : Nat)] (listA (pntQ near most near.length [] 0)) :=
  (paint_p near e hn hok most hm near.length [] none 0 (by simp) (by omega)).weak (leL_cons (le_refl _) (leL_cons le_nils (leL_refl _)))
theorem tints_p (H Z : Nat) (ls : List (List Bx)) (c : Option Nat) (hln : ls.length ≤ 10) (hH : 1 ≤ H ∧ H ≤ 48) (hZ : Z ≤ 24) : Pure Try.prog 87 [.rop [i64 (H : Nat), i64 (Z : Nat), landsA ls c, .ros ((chQ Z H ls).map rowsL) (chQ Z H ls).length none] 0] (listA (tinQ (ntrK Z H ls ls.length))) := by
  refine pure_of_body Try.func87 (c := body Try.f87) J (by simp [Try.ntmps87]) fun w0 Φ0 => ?_
  refine Wsr J J ?_
  refine Rv J J J (U_assign J) J J ?_
  refine Rt J ?_
  refine Wsr J J ?_
  refine Rv J J J (U_move J) J J ?_
  refine Rv J J J (U_nilCheckR J) J J ?_
  refine Rv J J J (U_fieldAddrR J) J J ?_
  refine Rv J J J (U_fieldAddrR J) J J ?_
  refine Rv J J J (U_load1 J J J) J J ?_
  refine Rv J J J (U_lenOf J len_ros) J J ?_
  refine Rv J J J (U_assign J) J J ?_
  refine Rt J ?_
  refine Wsr J J ?_
  refine Rv J J J (U_move J) J J ?_
  refine Ra J J J (U_mkL (n := ls.length) (cs' := nearD [] ls.length) J J J (by omega) replF) J J J ?_
  refine Rv J J J (U_assign J) J J ?_
  refine Rt J ?_
  refine W_seq J ?_
  refine Wsr J J ?_
  refine Rv J J J (U_move J) J J ?_
  refine Rv J J J (U_move J) J J ?_
  refine Rt J ?_
  refine W_block J ?_
  refine LoopTo (T' := [(0, .rop [i64 ((H : Nat) : Int), i64 ((Z : Nat) : Int), .ros (ls.map boxesL) ls.length c, .ros ((chQ Z H ls).map rowsL) ((chQ Z H ls).length) none] 0), (3, i64 ((ls.length : Nat) : Int)), (4, .slice 0 0 ls.length ls.length), (17, i64 ((ls.length : Nat) : Int)), (18, i64 ((0 : Nat) : Int))]) (H' := [(0, some (.cells (nearD [] (ls.length - 0)) 27))]) (n := 1) J (fun mz_ qz_ => ∃ (i : Nat) (D : List (List Int)), i ≤ ls.length ∧ D = ntrK Z H ls i ∧ mz_ = ls.length - i ∧ qz_ = ⟨[(0, .rop [i64 ((H : Nat) : Int), i64 ((Z : Nat) : Int), .ros (ls.map boxesL) ls.length c, .ros ((chQ Z H ls).map rowsL) ((chQ Z H ls).length) none] 0), (3, i64 ((ls.length : Nat) : Int)), (4, .slice 0 0 ls.length ls.length), (17, i64 ((ls.length : Nat) : Int)), (18, i64 ((i : Nat) : Int))], [(0, some (.cells (nearD D (ls.length - i)) 27))], 1, []⟩) ⟨0, [], (by omega), J, J, J⟩ id ⟨eD J J, eD J J, e_ J J, eD J J, eD J J, trivial⟩ ⟨(rD near_data J J), trivial⟩ J J J J (fun _ _ => J) ?_
  rintro _ _ ⟨i, D, hi0_0, hi0_1, rfl, rfl⟩
  have hDl : D.length = i := by rw [hi0_1, ntrK_len]
  refine Wsr J J ?_
  refine Rv J J J (U_lss J J) J J ?_
  refine Rt J ?_
  refine W_seq J ?_
  refine WcondP J J (fun hc0 => ?_) (fun hc0 => ?_)
  · have hci : i < ls.length := by omega
    have hg1 : ls.getD i [] = ls[i] := by rw [List.getD_eq_getElem?_getD, List.getElem?_eq_getElem hci]; rfl
    refine W_skip J ?_
    refine thenQ_n ?_
    refine W_seq J ?_
    refine W_block J ?_
    refine Wsr J J ?_
    refine Rv J J J (U_move J) J J ?_
    refine Rv J J J (U_assign J) J J ?_
    refine Rt J ?_
    refine Wsr J J ?_
    refine Rv J J J (U_move J) J J ?_
    refine Rv J J J (U_move J) J J ?_
    refine Rt J ?_
    refine W_block J ?_
    refine WweakH (b := 0) (cs' := nearC D (.out 1 0 1) (ls.length - i - 1)) J (by rw [near_split (show ls.length - i = (ls.length - i - 1) + 1 by omega)]; exact near_le) ?_
    refine LoopTo (T' := [(0, .rop [i64 ((H : Nat) : Int), i64 ((Z : Nat) : Int), .ros (ls.map boxesL) ls.length c, .ros ((chQ Z H ls).map rowsL) ((chQ Z H ls).length) none] 0), (3, i64 ((ls.length : Nat) : Int)), (4, .slice 0 0 ls.length ls.length), (5, i64 ((i : Nat) : Int)), (17, i64 ((ls.length : Nat) : Int)), (18, i64 ((i : Nat) : Int)), (21, i64 ((i : Nat) : Int)), (22, i64 ((0 : Nat) : Int))]) (H' := [(0, some (.cells (nearC D (.out 1 [].length 1) (ls.length - i - 1)) 27)), (1, outB ([].map i64) 3 [].length)]) (n := 2) J (fun mz_ qz_ => ∃ (k : Nat) (W : List Int), k ≤ i ∧ W = ntrR Z H ls i k ∧ mz_ = i - k ∧ qz_ = ⟨[(0, .rop [i64 ((H : Nat) : Int), i64 ((Z : Nat) : Int), .ros (ls.map boxesL) ls.length c, .ros ((chQ Z H ls).map rowsL) ((chQ Z H ls).length) none] 0), (3, i64 ((ls.length : Nat) : Int)), (4, .slice 0 0 ls.length ls.length), (5, i64 ((i : Nat) : Int)), (17, i64 ((ls.length : Nat) : Int)), (18, i64 ((i : Nat) : Int)), (21, i64 ((i : Nat) : Int)), (22, i64 ((k : Nat) : Int))], [(0, some (.cells (nearC D (.out 1 W.length 1) (ls.length - i - 1)) 27)), (1, outB (W.map i64) 3 W.length)], 2, []⟩) ⟨0, [], (by omega), J, J, J⟩ id ⟨eD J J, eD J J, e_ J J, eD J J, eD J J, eD J J, eD J J, eD J J, trivial⟩ ⟨(rNear (σ' := id) J J J), rO0 J, trivial⟩ J J J J (fun _ _ => J) ?_
    rintro _ _ ⟨k, W, hi1_0, hi1_1, rfl, rfl⟩
    have hWl : W.length ≤ k := by rw [hi1_1]; exact ntrR_len
    refine Wsr J J ?_
    refine Rv J J J (U_lss J J) J J ?_
    refine Rt J ?_
    refine W_seq J ?_
    refine WcondP J J (fun hc1 => ?_) (fun hc1 => ?_)
    · have hck : k < ls.length := by omega
      have hg2 : ls.getD k [] = ls[k] := by rw [List.getD_eq_getElem?_getD, List.getElem?_eq_getElem hck]; rfl
      refine W_skip J ?_
      refine thenQ_n ?_
      refine W_seq J ?_
      refine W_block J ?_
      refine Wsr J J ?_
      refine Rv J J J (U_move J) J J ?_
      refine Rv J J J (U_assign J) J J ?_
      refine Rt J ?_
      refine Wsr J J ?_
      refine Rv J J J (U_move J) J J ?_
      refine Rv J J J (U_move J) J J ?_
      refine Rv J J J (U_move J) J J ?_
      refine Rv J J J (U_call J J (near_p H Z ls c i k (by omega) (by omega) (by omega) (by omega)) J) J J ?_
      refine Rt J ?_
      refine Wcond J J (fun hc2 => ?_) (fun hc2 => ?_)
      · refine W_reg J ?_
        refine Rv J J J (U_move J) J J ?_
        refine Rv J J J (U_move J) J J ?_
        refine Rv J J J (U_move J) J J ?_
        refine Rv J J J (U_move J) J J ?_
        refine Rv J J J (U_indexS (j := i) J J J (by omega)) J J ?_
        refine Rv J J J (U_load1 J J (near_get hDl)) J J ?_
        refine Rv J J J (U_move J) J J ?_
        refine Rv J J J (U_buildSliceF (by rfl) (by decide) J J J) J J ?_
        refine Ra J J J (U_appO (b := 1) (m := 0) (cs' := (W ++ [((k : Nat) : Int)]).map i64) (n' := (W ++ [((k : Nat) : Int)]).length) J J (by simp) J (map_len1 _) J J (by omega) (appM _ _) (len1 _ _)) J J J ?_
        refine Rv J J J (U_indexS (j := i) J J J (by omega)) J J ?_
        refine Rn J J J (U_store (n := 1) (cs' := nearC D (.out 2 ((W ++ [((k : Nat) : Int)]).length) 1) (ls.length - i - 1)) J J J J J (by rw [near_len]; omega) J (near_set hDl)) J ?_
        refine Re J ?_
        refine blkQ_n ?_
        refine thenQ_n ?_
        refine W_reg J ?_
        refine Rv J J J (U_add J J (w64e (m := ((k + 1 : Nat) : Int)) (by omega) (by omega) (by omega))) J J ?_
        refine Rv J J J (U_move J) J J ?_
        refine Rt J ?_
        exact againTo (T' := [(0, .rop [i64 ((H : Nat) : Int), i64 ((Z : Nat) : Int), .ros (ls.map boxesL) ls.length c, .ros ((chQ Z H ls).map rowsL) ((chQ Z H ls).length) none] 0), (3, i64 ((ls.length : Nat) : Int)), (4, .slice 0 0 ls.length ls.length), (5, i64 ((i : Nat) : Int)), (17, i64 ((ls.length : Nat) : Int)), (18, i64 ((i : Nat) : Int)), (21, i64 ((i : Nat) : Int)), (22, i64 (((k + 1) : Nat) : Int))]) (H' := [(0, some (.cells (nearC D (.out 1 (W ++ [((k : Nat) : Int)]).length 1) (ls.length - i - 1)) 27)), (1, outB ((W ++ [((k : Nat) : Int)]).map i64) 3 (W ++ [((k : Nat) : Int)]).length)]) (n := 2) (i - (k + 1)) ⟨k + 1, W ++ [((k : Nat) : Int)], (by omega), (by first | (rw [ntrR_t (by rw [hg1, hg2]; exact hc2), ← hi1_1]; done) | (rw [ntrR_f (by rw [hg1, hg2]; simpa using hc2)]; exact hi1_1)), J, J⟩ (by omega) (mapN [0, 2]) ⟨eD J J, eD J J, e_ J J, eD J J, eD J J, eD J J, eD J J, eD J J, trivial⟩ ⟨(rNear (σ' := id) J J J), rO (mapD (fun _ => J) _) J J, trivial⟩ J J J J (fun _ h => absurd h (Nat.not_lt_zero _))
      · have hc2' := Bool.eq_false_iff.1 hc2
        refine W_skip J ?_
        refine blkQ_n ?_
        refine thenQ_n ?_
        refine W_reg J ?_
        refine Rv J J J (U_add J J (w64e (m := ((k + 1 : Nat) : Int)) (by omega) (by omega) (by omega))) J J ?_
        refine Rv J J J (U_move J) J J ?_
        refine Rt J ?_
        exact againTo (T' := [(0, .rop [i64 ((H : Nat) : Int), i64 ((Z : Nat) : Int), .ros (ls.map boxesL) ls.length c, .ros ((chQ Z H ls).map rowsL) ((chQ Z H ls).length) none] 0), (3, i64 ((ls.length : Nat) : Int)), (4, .slice 0 0 ls.length ls.length), (5, i64 ((i : Nat) : Int)), (17, i64 ((ls.length : Nat) : Int)), (18, i64 ((i : Nat) : Int)), (21, i64 ((i : Nat) : Int)), (22, i64 (((k + 1) : Nat) : Int))]) (H' := [(0, some (.cells (nearC D (.out 1 W.length 1) (ls.length - i - 1)) 27)), (1, outB (W.map i64) 3 W.length)]) (n := 2) (i - (k + 1)) ⟨k + 1, W, (by omega), (by first | (rw [ntrR_t (by rw [hg1, hg2]; exact hc2), ← hi1_1]; done) | (rw [ntrR_f (by rw [hg1, hg2]; simpa using hc2)]; exact hi1_1)), J, J⟩ (by omega) id ⟨eD J J, eD J J, e_ J J, eD J J, eD J J, eD J J, eD J J, eD J J, trivial⟩ ⟨(rNear (σ' := id) J J J), rO (mapD (fun _ => J) _) J J, trivial⟩ J J J J (fun _ _ => J)
    · have hWe : W = ntrR Z H ls i i := by rw [hi1_1, show k = i by omega]
      refine WfrO 1 (W.map i64) J (mapD (fun _ => J) _) (T' := [(0, .rop [i64 ((H : Nat) : Int), i64 ((Z : Nat) : Int), .ros (ls.map boxesL) ls.length c, .ros ((chQ Z H ls).map rowsL) ((chQ Z H ls).length) none] 0), (3, i64 ((ls.length : Nat) : Int)), (4, .slice 0 0 ls.length ls.length), (5, i64 ((i : Nat) : Int)), (17, i64 ((ls.length : Nat) : Int)), (18, i64 ((i : Nat) : Int)), (21, i64 ((i : Nat) : Int)), (22, i64 ((k : Nat) : Int)), (23, .bool (decide (((k : Nat) : Int) < ((i : Nat) : Int))))]) (H' := [(0, some (.cells (nearD (D ++ [W]) (ls.length - i - 1)) 27))]) ⟨fD J J, fD J J, fS J J, fD J J, fD J J, fD J J, fD J J, fD J J, fD J J, trivial⟩ ⟨⟨J, .cells near_fr⟩, trivial⟩ ?_
      refine W_exit J ?_
      refine thenQ_x ?_
      refine thenQ_x ?_
      refine blkQ_x J ?_
      refine blkQ_n ?_
      refine thenQ_n ?_
      refine W_reg J ?_
      refine Rv J J J (U_add J J (w64e (m := ((i + 1 : Nat) : Int)) (by omega) (by omega) (by omega))) J J ?_
      refine Rv J J J (U_move J) J J ?_
      refine Rt J ?_
      exact againTo (T' := [(0, .rop [i64 ((H : Nat) : Int), i64 ((Z : Nat) : Int), .ros (ls.map boxesL) ls.length c, .ros ((chQ Z H ls).map rowsL) ((chQ Z H ls).length) none] 0), (3, i64 ((ls.length : Nat) : Int)), (4, .slice 0 0 ls.length ls.length), (17, i64 ((ls.length : Nat) : Int)), (18, i64 (((i + 1) : Nat) : Int))]) (H' := [(0, some (.cells (nearD (D ++ [W]) (ls.length - (i + 1))) 27))]) (n := 1) (ls.length - (i + 1)) ⟨i + 1, D ++ [W], (by omega), (by rw [ntrK_succ, ← hi0_1, hWe]), J, J⟩ (by omega) id ⟨eD J J, eD J J, e_ J J, eD J J, eD J J, trivial⟩ ⟨(rD near_data J J), trivial⟩ J J J J (fun _ _ => J)
  · have hDe : D.length = ls.length := by omega
    have hDD : D = ntrK Z H ls ls.length := by rw [hi0_1, show i = ls.length by omega]
    have hok : NrOk D := by rw [hDD]; exact ntr_ok
    refine WweakH (b := 0) (cs' := D.map listA) J (by rw [near_end (show ls.length - i = 0 by omega)]; exact leL_refl _) ?_
    refine WfrN 0 J (mapD (fun _ => J) _) (T' := [(0, .rop [i64 ((H : Nat) : Int), i64 ((Z : Nat) : Int), .ros (ls.map boxesL) ls.length c, .ros ((chQ Z H ls).map rowsL) ((chQ Z H ls).length) none] 0), (3, i64 ((ls.length : Nat) : Int)), (4, .ros (D.map listA) D.length (some ls.length)), (17, i64 ((ls.length : Nat) : Int)), (18, i64 ((i : Nat) : Int)), (19, .bool (decide (((i : Nat) : Int) < ((ls.length : Nat) : Int))))]) (H' := []) ⟨⟨_, J, J⟩, ⟨_, J, J⟩, ⟨_, J, (by rw [hDe]; exact fr_sl (Nat.le_refl _))⟩, ⟨_, J, J⟩, ⟨_, J, J⟩, ⟨_, J, J⟩, trivial⟩ trivial ?_
    refine W_exit J ?_
    refine thenQ_x ?_
    refine thenQ_x ?_
    refine blkQ_x J ?_
    refine thenQ_n ?_
    refine W_seq J ?_
    refine Wsr J J ?_
    refine Rv J J J (U_move J) J J ?_
    refine Rv J J J (U_add J J (w64e (m := ((ls.length + 1 : Nat) : Int)) (by omega) (by omega) (by omega))) J J ?_
    refine Rv J J J (U_move J) J J ?_
    refine Rt J ?_
    refine W_block J ?_
    refine LoopTo (T' := [(3, i64 ((ls.length : Nat) : Int)), (4, .ros (D.map listA) D.length (some ls.length)), (42, i64 ((ls.length + 1 : Nat) : Int)), (43, i64 ((0 : Nat) : Int))]) (H' := []) (n := 0) J (fun mz_ qz_ => ∃ (most : Nat), most ≤ ls.length + 1 ∧ ((∀ j, j < most → pnC (ntrK Z H ls ls.length) j = none)) ∧ mz_ = ls.length + 1 - most ∧ qz_ = ⟨[(3, i64 ((ls.length : Nat) : Int)), (4, .ros (D.map listA) D.length (some ls.length)), (42, i64 ((ls.length + 1 : Nat) : Int)), (43, i64 ((most : Nat) : Int))], [], 0, []⟩) ⟨0, (by omega), (fun j h => absurd h (Nat.not_lt_zero _)), J, J⟩ id ⟨eD J J, eD J J, eD J J, eD J J, trivial⟩ trivial J J J J (fun _ _ => J) ?_
    rintro _ _ ⟨most, hi2_0, hi2_1, rfl, rfl⟩
    refine Wsr J J ?_
    refine Rv J J J (U_lss J J) J J ?_
    refine Rt J ?_
    refine W_seq J ?_
    refine WcondP J J (fun hc3 => ?_) (fun hc3 => ?_)
    · refine W_skip J ?_
      refine thenQ_n ?_
      refine W_seq J ?_
      refine W_block J ?_
      refine Wsr J J ?_
      refine Rv J J J (U_move J) J J ?_
      refine Rv J J J (U_assign J) J J ?_
      refine Rt J ?_
      refine Wsr J J ?_
      refine Rv J J J (U_move J) J J ?_
      refine Rv J J J (U_move J) J J ?_
      refine Rv J J J (U_call J J (paintN_p D (some ls.length) (by omega) hok most (by omega)) J) J J ?_
      refine Rv J J J (U_assign J) J J ?_
      refine Rt J ?_
      refine Wsr J J ?_
      refine Rv J J J (U_move J) J J ?_
      refine Rv J J J (U_lenOf J len_ros) J J ?_
      refine Rv J J J (U_move J) J J ?_
      refine Rv J J J (U_eql J J) J J ?_
      refine Rt J ?_
      refine WcondP J J (fun hc4 => ?_) (fun hc4 => ?_)
      · have hyes := pnC_yes (near := ntrK Z H ls ls.length) (most := most) (by rw [← hDD]; omega)
        refine Wsr J J ?_
        refine Rv J J J (U_move J) J J ?_
        refine Rv J J J (U_assign J) J J ?_
        refine Rt J ?_
        refine W_ret J ?_
        refine blkQ_r ?_
        refine thenQ_r ?_
        refine thenQ_r ?_
        refine blkQ_r ?_
        refine thenQ_r ?_
        exact retL (rlT J rl0) (by first | rfl | (simp only [packA]; rw [tinQ, some_hit (by rw [← hDD]; omega) hi2_1 hyes, hDD]; rfl; first | done | rfl) | (simp only [packA]; rw [tinQ, some_none fun j hj => hi2_1 j (by rw [← hDD] at hj; omega)]; rfl; first | done | rfl)) J
      · refine W_skip J ?_
        refine blkQ_n ?_
        refine thenQ_n ?_
        refine W_reg J ?_
        refine Rv J J J (U_add J J (w64e (m := ((most + 1 : Nat) : Int)) (by omega) (by omega) (by omega))) J J ?_
        refine Rv J J J (U_move J) J J ?_
        refine Rt J ?_
        exact againTo (T' := [(3, i64 ((ls.length : Nat) : Int)), (4, .ros (D.map listA) D.length (some ls.length)), (42, i64 ((ls.length + 1 : Nat) : Int)), (43, i64 (((most + 1) : Nat) : Int))]) (H' := []) (n := 0) (ls.length + 1 - (most + 1)) ⟨most + 1, (by omega), (by intro j h; rcases Nat.lt_succ_iff_lt_or_eq.1 h with h | rfl; exact hi2_1 j h; exact pnC_no (by rw [← hDD]; omega)), J, J⟩ (by omega) id ⟨eD J J, eD J J, eD J J, eD J J, trivial⟩ trivial J J J J (fun _ _ => J)
    · refine W_exit J ?_
      refine thenQ_x ?_
      refine thenQ_x ?_
      refine blkQ_x J ?_
      refine thenQ_n ?_
      refine Wsr J J ?_
      refine Rv J J J (U_assign J) J J ?_
      refine Rt J ?_
      refine WweakT (j := 2) J (le_nils (cs := [])) ?_
      refine W_ret J ?_
      exact retL (rlT J rl0) (by first | rfl | (simp only [packA]; rw [tinQ, some_hit (by rw [← hDD]; omega) hi2_1 hyes, hDD]; rfl; first | done | rfl) | (simp only [packA]; rw [tinQ, some_none fun j hj => hi2_1 j (by rw [← hDD] at hj; omega)]; rfl; first | done | rfl)) J
end Go.Proofs.Ythlolelbmhfdbaa
end

section
namespace Go.Proofs.Ythlolelbmhfdbaa
set_option maxRecDepth 20000
open Go.AE
def colQ (near : List (List Int)) : Nat → List Int → Nat → List (List Int × Nat)
  | 0, b, u => [(b, u)]
  | d + 1, b, u => (List.range (u + 1)).flatMap fun t => bif goodT (near.getD b.length []) b t then colQ near d (b ++ [(t : Int)]) (max u (t + 1)) else []
def colR (near : List (List Int)) (d : Nat) (b : List Int) (u t : Nat) : List (List Int × Nat) := bif goodT (near.getD b.length []) b t then colQ near d (b ++ [(t : Int)]) (max u (t + 1)) else []
theorem colQ_succ {near : List (List Int)} {d u : Nat} {b : List Int} : colQ near (d + 1) b u = (List.range (u + 1)).flatMap (colR near d b u) := rfl
structure Canon (b : List Int) (u : Nat) : Prop where
  lt : ∀ x ∈ b, 0 ≤ x ∧ x < (u : Int)
  al : ∀ t, t < u → (t : Int) ∈ b
  df : difQ b = u
  le : u ≤ b.length
theorem difQ_snoc {b : List Int} {x : Int} : difQ (b ++ [x]) = difQ b + if x ∈ b then 0 else 1 := by
  have hk : b.length < (b ++ [x]).length := by simp
  have e : difK (b ++ [x]) b.length = difQ b := by
    unfold difQ difK
    congr 1
    refine List.filter_congr fun i hi => ?_
    have hi := List.mem_range.1 hi
    rw [List.take_append_of_le_length (by omega)]
    congr 2
    rw [List.getD_eq_getElem?_getD, List.getD_eq_getElem?_getD, List.getElem?_append_left hi]
  have hx : (b ++ [x])[b.length] = x := by simp
  show difK (b ++ [x]) (b ++ [x]).length = _
  rw [show (b ++ [x]).length = b.length + 1 by simp]
  split
  · rename_i h
    obtain ⟨j, hj, h2⟩ := List.getElem_of_mem h
    rw [difK_f hk (j := j) hj (by rw [hx, List.getElem_append_left hj]; exact h2), e]; rfl
  · rename_i h
    rw [difK_t hk fun j hj h3 => ?_, e]
    rw [hx, List.getElem_append_left h3]
    rintro rfl; exact h (List.getElem_mem _)
theorem Canon.snoc {b : List Int} {u t : Nat} (h : Canon b u) (ht : t ≤ u) : Canon (b ++ [(t : Int)]) (max u (t + 1)) := by
  refine ⟨fun x hx => ?_, fun s hs => ?_, ?_, ?_⟩
  · rcases List.mem_append.1 hx with hx | hx
    · have := h.lt x hx; omega
    · rw [List.mem_singleton.1 hx]; omega
  · by_cases e : s = t
    · subst e; simp
    · exact List.mem_append_left _ (h.al s (by omega))
  · rw [difQ_snoc, h.df]
    by_cases e : t < u
    · rw [if_pos (h.al t e)]; omega
    · rw [if_neg fun hm => by have := h.lt _ hm; omega]; omega
  · have := h.le; rw [List.length_append]; simp; omega
theorem Canon.nil : Canon [] 0 := ⟨fun _ h => absurd h List.not_mem_nil, fun _ h => absurd h (Nat.not_lt_zero _), rfl, Nat.le_refl _⟩
theorem colQ_canon {near : List (List Int)} : ∀ {d : Nat} {b : List Int} {u : Nat}, Canon b u → ∀ c ∈ colQ near d b u, Canon c.1 c.2 ∧ c.1.length = b.length + d ∧ u ≤ c.2
  | 0, b, u, h, c, hc => by
    rw [List.mem_singleton.1 hc]; exact ⟨h, rfl, Nat.le_refl _⟩
  | d + 1, b, u, h, c, hc => by
    rw [colQ_succ] at hc
    obtain ⟨t, ht, hc⟩ := List.mem_flatMap.1 hc
    have ht := List.mem_range.1 ht
    unfold colR at hc
    cases hg : goodT (near.getD b.length []) b t with
    | false => rw [hg] at hc; exact absurd hc List.not_mem_nil
    | true =>
      rw [hg] at hc
      obtain ⟨h1, h2, h3⟩ := colQ_canon (h.snoc (show t ≤ u by omega)) c hc
      refine ⟨h1, by rw [h2, List.length_append]; simp; omega, by omega⟩
theorem colR_ge {near : List (List Int)} {d : Nat} {b : List Int} {u t : Nat} (h : Canon b u) (ht : t ≤ u) {c : List Int × Nat} (hc : c ∈ colR near d b u t) : Canon c.1 c.2 ∧ c.1.length = b.length + (d + 1) ∧ max u (t + 1) ≤ c.2 := by
  unfold colR at hc
  cases hg : goodT (near.getD b.length []) b t with
  | false => rw [hg] at hc; exact absurd hc List.not_mem_nil
  | true =>
    rw [hg] at hc
    obtain ⟨h1, h2, h3⟩ := colQ_canon (h.snoc ht) c hc
    exact ⟨h1, by rw [h2, List.length_append]; simp; omega, h3⟩
theorem findSome_cut {α : Type} {f : Nat → Option α} {N m : Nat} (h : ∀ j, m ≤ j → j < N → f j = none) : (List.range N).findSome? f = (List.range (min N m)).findSome? f := by
  by_cases hm : N ≤ m
  · rw [Nat.min_eq_left hm]
  · rw [Nat.min_eq_right (by omega)]
    have h1 : List.range' 0 N = List.range' 0 m ++ List.range' (0 + 1 * m) (N - m) := by rw [List.range'_append]; congr 1; omega
    rw [List.range_eq_range', List.range_eq_range', h1, List.findSome?_append]
    have : (List.range' (0 + 1 * m) (N - m)).findSome? f = none := by
      rw [List.findSome?_eq_none_iff]
      intro x hx
      have := List.mem_range'_1.1 hx
      exact h x (by omega) (by omega)
    rw [this, Option.or_none]
theorem findSome_congr {α : Type} {f g : Nat → Option α} : ∀ {l : List Nat}, (∀ j ∈ l, f j = g j) → l.findSome? f = l.findSome? g
  | [], _ => rfl
  | a :: l, h => by
    have h1 := h a (by simp)
    have h2 := findSome_congr (l := l) fun j hj => h j (List.mem_cons_of_mem _ hj)
    rw [List.findSome?_cons, List.findSome?_cons, h1, h2]
theorem pnt_col {near : List (List Int)} {most : Nat} : ∀ {d : Nat} {b : List Int} {u : Nat}, Canon b u → u ≤ most → b.length + d = near.length → pntQ near most d b u = (((colQ near d b u).find? fun c => decide (c.2 ≤ most)).map (·.1)).getD []
  | 0, b, u, h, hu, hl => by
    rw [colQ, List.find?_cons_of_pos (by simpa using hu)]; rfl
  | d + 1, b, u, h, hu, hl => by
    have key : ∀ t, t < u + 1 → t < most → pntC near most d b u t = ((colR near d b u t).find? fun c => decide (c.2 ≤ most)).map (·.1) := fun t ht hm => by
      unfold pntC colR
      cases hg : goodT (near.getD b.length []) b t with
      | false => rfl
      | true =>
        simp only [cond_true]
        have hc := h.snoc (show t ≤ u by omega)
        have hl' : (b ++ [(t : Int)]).length + d = near.length := by rw [List.length_append]; simp; omega
        have ih := pnt_col (most := most) (d := d) hc (by omega) hl'
        rw [ih]
        cases hf : (colQ near d (b ++ [(t : Int)]) (max u (t + 1))).find? fun c => decide (c.2 ≤ most) with
        | none =>
          have : (([] : List Int).length == near.length) = false := by rw [List.length_append] at hl'; simp at hl' ⊢; omega
          show (bif ([] : List Int).length == near.length then some ([] : List Int) else none) = none
          rw [this]; rfl
        | some c =>
          have h3 := (colQ_canon hc c (List.mem_of_find?_eq_some hf)).2.1
          have : (c.1.length == near.length) = true := by simp; omega
          show (bif c.1.length == near.length then some c.1 else none) = some c.1
          rw [this]; rfl
    have hrow : ∀ t, most ≤ t → t < u + 1 → ((colR near d b u t).find? fun c => decide (c.2 ≤ most)) = none := fun t h1 h2 => by
      rw [List.find?_eq_none]
      intro c hc
      have := (colR_ge h (show t ≤ u by omega) hc).2.2
      simp; omega
    have e1 : (colQ near (d + 1) b u).find? (fun c => decide (c.2 ≤ most)) = (List.range (min (u + 1) most)).findSome? fun t => (colR near d b u t).find? fun c => decide (c.2 ≤ most) := by
      rw [colQ_succ, List.find?_flatMap]
      exact findSome_cut hrow
    rw [pntQ_succ, e1, findSome_congr (g := fun t => ((colR near d b u t).find? fun c => decide (c.2 ≤ most)).map (·.1)) fun j hj => key j (by have := List.mem_range.1 hj; omega) (by have := List.mem_range.1 hj; omega)]
    congr 1
    generalize List.range (min (u + 1) most) = l
    induction l with
    | nil => rfl
    | cons a l ih =>
      rw [List.findSome?_cons, List.findSome?_cons]
      cases (colR near d b u a).find? (fun c => decide (c.2 ≤ most)) with
      | none => exact ih
      | some c => rfl
def scF (s c : List Int × Nat) : List Int × Nat := if c.2 < s.2 then c else s
theorem sc_splitR : ∀ (cs : List (List Int × Nat)) (s r : List Int × Nat), cs.foldl scF s = r → (r = s ∧ ∀ c ∈ cs, s.2 ≤ c.2) ∨ (r ∈ cs ∧ r.2 < s.2 ∧ (∀ c ∈ cs, r.2 ≤ c.2) ∧ (cs.find? fun c => decide (c.2 ≤ r.2)) = some r ∧ ∀ L, cs.foldl scF (L, s.2) = r)
  | [], s, r, h => .inl ⟨h.symm, fun _ h => absurd h List.not_mem_nil⟩
  | a :: cs, s, r, hr => by
    rw [List.foldl_cons] at hr
    by_cases h : a.2 < s.2
    · rw [show scF s a = a from if_pos h] at hr
      have e2 : ∀ L, (a :: cs).foldl scF (L, s.2) = cs.foldl scF a := fun L => by rw [List.foldl_cons, show scF (L, s.2) a = a from if_pos h]
      right
      rcases sc_splitR cs a r hr with ⟨h1, h2⟩ | ⟨h1, h2, h3, h4, h5⟩
      · subst h1
        refine ⟨by simp, h, fun c hc => ?_, ?_, fun L => by rw [e2, hr]⟩
        · rcases List.mem_cons.1 hc with rfl | hc
          · exact Nat.le_refl _
          · exact h2 c hc
        · rw [List.find?_cons_of_pos (by simp)]
      · refine ⟨List.mem_cons_of_mem _ h1, by omega, fun c hc => ?_, ?_, fun L => by rw [e2, hr]⟩
        · rcases List.mem_cons.1 hc with rfl | hc
          · omega
          · exact h3 c hc
        · rw [List.find?_cons_of_neg (by simp; omega)]; exact h4
    · rw [show scF s a = s from if_neg h] at hr
      have e2 : ∀ L, (a :: cs).foldl scF (L, s.2) = cs.foldl scF (L, s.2) := fun L => by rw [List.foldl_cons, show scF (L, s.2) a = (L, s.2) from if_neg h]
      rcases sc_splitR cs s r hr with ⟨h1, h2⟩ | ⟨h1, h2, h3, h4, h5⟩
      · left
        refine ⟨h1, fun c hc => ?_⟩
        rcases List.mem_cons.1 hc with rfl | hc
        · omega
        · exact h2 c hc
      · right
        refine ⟨List.mem_cons_of_mem _ h1, h2, fun c hc => ?_, ?_, fun L => by rw [e2]; exact h5 L⟩
        · rcases List.mem_cons.1 hc with rfl | hc
          · omega
          · exact h3 c hc
        · rw [List.find?_cons_of_neg (by simp; omega)]; exact h4
theorem sc_split (cs : List (List Int × Nat)) (s : List Int × Nat) : (cs.foldl scF s = s ∧ ∀ c ∈ cs, s.2 ≤ c.2) ∨ (cs.foldl scF s ∈ cs ∧ (cs.foldl scF s).2 < s.2 ∧ (∀ c ∈ cs, (cs.foldl scF s).2 ≤ c.2) ∧ (cs.find? fun c => decide (c.2 ≤ (cs.foldl scF s).2)) = some (cs.foldl scF s) ∧ ∀ L, cs.foldl scF (L, s.2) = cs.foldl scF s) :=
  sc_splitR cs s _ rfl
theorem col_some {near : List (List Int)} (hok : NrOk near) : ∀ {d : Nat} {b : List Int} {u : Nat}, Canon b u → b.length + d = near.length → ∃ c, c ∈ colQ near d b u
  | 0, b, u, _, _ => ⟨(b, u), by simp [colQ]⟩
  | d + 1, b, u, h, hl => by
    have hg : goodT (near.getD b.length []) b u = true := by
      have hb : b.length < near.length := by omega
      rw [List.getD_eq_getElem?_getD, List.getElem?_eq_getElem hb, Option.getD_some, goodT, Bool.not_eq_true', List.any_eq_false]
      intro k hk
      have h1 := (hok _ hb).2 k hk
      have hkb : k.toNat < b.length := by omega
      rw [List.getD_eq_getElem?_getD, List.getElem?_eq_getElem hkb, Option.getD_some]
      have := h.lt _ (List.getElem_mem hkb)
      simp; omega
    obtain ⟨c, hc⟩ := col_some hok (d := d) (h.snoc (Nat.le_refl u)) (by rw [List.length_append]; simp; omega)
    refine ⟨c, ?_⟩
    rw [colQ_succ]
    exact List.mem_flatMap.2 ⟨u, List.mem_range.2 (by omega), by unfold colR; rw [hg]; exact hc⟩
theorem tin_best {near : List (List Int)} (hok : NrOk near) (h0 : 0 < near.length) : ∃ c, c ∈ colQ near near.length [] 0 ∧ tinQ near = c.1 ∧ ((colQ near near.length [] 0).foldl scF ([], near.length + 1)) = c ∧ (∀ c' ∈ colQ near near.length [] 0, c.2 ≤ c'.2) ∧ c.1.length = near.length ∧ Canon c.1 c.2 := by
  obtain ⟨c0, hc0⟩ := col_some hok (d := near.length) Canon.nil (by simp)
  have h1 := colQ_canon Canon.nil c0 hc0
  have h2 := h1.1.le
  simp only [List.length_nil, Nat.zero_add] at h1
  rcases sc_split (colQ near near.length [] 0) ([], near.length + 1) with ⟨_, h3⟩ | ⟨h3, h4, h5, h6, _⟩
  · have := h3 c0 hc0; simp only at this; omega
  · refine ⟨_, h3, ?_, rfl, h5, ?_, (colQ_canon Canon.nil _ h3).1⟩
    · have h7 := (colQ_canon Canon.nil _ h3)
      have h8 := h7.2.1
      simp only [List.length_nil, Nat.zero_add] at h8
      generalize hr : (colQ near near.length [] 0).foldl scF ([], near.length + 1) = r at h3 h4 h5 h6 h7 h8
      have hp : ∀ most, pntQ near most near.length [] 0 = (((colQ near near.length [] 0).find? fun c => decide (c.2 ≤ most)).map (·.1)).getD [] := fun most => pnt_col Canon.nil (Nat.zero_le _) (by simp)
      have hyes : pnC near r.2 = some r.1 := by
        have e : pntQ near r.2 near.length [] 0 = r.1 := by rw [hp, h6]; rfl
        rw [pnC_yes (by rw [e]; exact h8), e]
      rw [tinQ, some_hit (t := r.2) h4 (fun j hj => ?_) hyes]; rfl
      refine pnC_no ?_
      have : ((colQ near near.length [] 0).find? fun c => decide (c.2 ≤ j)) = none := by
        rw [List.find?_eq_none]; intro c hc; have := h5 c hc; simp; omega
      rw [hp, this]; simp; omega
    · have := (colQ_canon Canon.nil _ h3).2.1
      simpa using this
theorem tin_len {near : List (List Int)} (hok : NrOk near) : (tinQ near).length = near.length := by
  rcases Nat.eq_zero_or_pos near.length with h0 | h0
  · have : near = [] := List.length_eq_zero_iff.1 h0
    subst this; rfl
  · obtain ⟨c, _, h2, _, _, h5, _⟩ := tin_best hok h0
    rw [h2, h5]
end Go.Proofs.Ythlolelbmhfdbaa
end

section
namespace Go.Proofs.Ythlolelbmhfdbaa
set_option maxRecDepth 20000
open Go.AE
def tinR (s : Sk) : List Int := if chkS s = 0 then tinQ (ntrK s.z.toNat s.h.toNat s.ls s.ls.length) else []
theorem tinR_g {H Z : Nat} {ls : List (List Bx)} (hc : chkS ⟨H, Z, ls⟩ = 0) : tinR ⟨H, Z, ls⟩ = tinQ (ntrK Z H ls ls.length) := if_pos hc
def cfl (Z H : Nat) (ls : List (List Bx)) (t : List Int) : Bool := (List.range ls.length).any fun i => (List.range i).any fun k => decide (t.getD i 0 = t.getD k 0) && nrQ Z H (ls.getD i []) (ls.getD k [])
def chtE (s : Sk) (t : List Int) : Int := if chkS s ≠ 0 then chkS s else if t.length ≠ s.ls.length then 15 else if inL 0 ((s.ls.length : Int) - 1) t = false then 3 else if cfl s.z.toNat s.h.toNat s.ls t = true then 19 else 0
def chtR (s : Sk) (t : List Int) : Int := if chtE s t = 0 then (difQ t : Nat) else 0
theorem cfl_true {Z H i k : Nat} {ls : List (List Bx)} {t : List Int} (hl : t.length = ls.length) (hi : i < ls.length) (hk : k < i) (h1 : t[i] = t[k]) (h2 : nrQ Z H ls[i] ls[k] = true) : cfl Z H ls t = true := by
  refine List.any_eq_true.2 ⟨i, List.mem_range.2 hi, List.any_eq_true.2 ⟨k, List.mem_range.2 hk, ?_⟩⟩
  rw [List.getD_eq_getElem?_getD, List.getElem?_eq_getElem (by omega), List.getD_eq_getElem?_getD, List.getElem?_eq_getElem (by omega), List.getD_eq_getElem?_getD, List.getElem?_eq_getElem hi, List.getD_eq_getElem?_getD, List.getElem?_eq_getElem (by omega)]
  simpa using ⟨h1, h2⟩
theorem cfl_false {Z H : Nat} {ls : List (List Bx)} {t : List Int} (hl : t.length = ls.length) (h : ∀ i k (hi : i < ls.length) (hk : k < i), ¬ (t[i] = t[k] ∧ nrQ Z H ls[i] ls[k] = true)) : cfl Z H ls t = false := by
  refine List.any_eq_false.2 fun i hi => ?_
  have hi := List.mem_range.1 hi
  rw [Bool.not_eq_true]
  refine List.any_eq_false.2 fun k hk => ?_
  have hk := List.mem_range.1 hk
  rw [List.getD_eq_getElem?_getD, List.getElem?_eq_getElem (by omega), List.getD_eq_getElem?_getD, List.getElem?_eq_getElem (by omega), List.getD_eq_getElem?_getD, List.getElem?_eq_getElem hi, List.getD_eq_getElem?_getD, List.getElem?_eq_getElem (by omega)]
  simpa using fun h1 h2 => h i k hi hk ⟨h1, h2⟩
theorem tak_any {l : List Int} {k : Nat} (hk : k < l.length) : ((l.take k).any fun y => decide (l[k] = y)) = true ↔ ∃ j, ∃ (_ : j < k) (hj : j < l.length), l[j] = l[k] := by
  rw [List.any_eq_true]
  constructor
  · rintro ⟨x, hx, h⟩
    obtain ⟨j, hj, rfl⟩ := List.getElem_of_mem hx
    rw [List.length_take] at hj
    exact ⟨j, by omega, by omega, by simpa using (of_decide_eq_true h).symm⟩
  · rintro ⟨j, h1, hj, h⟩
    exact ⟨l[j], by rw [← List.getElem_take (h := by simp; omega) (j := k)]; exact List.getElem_mem _, by rw [h]; simp⟩
theorem chtE_e {s : Sk} {t : List Int} (h : chkS s ≠ 0) : chtE s t = chkS s ∧ chtR s t = 0 := by
  have e : chtE s t = chkS s := if_pos h
  exact ⟨e, if_neg (by rw [e]; exact h)⟩
section
variable {H Z : Nat} {ls : List (List Bx)} {t : List Int} (hc : chkS ⟨H, Z, ls⟩ = 0)
include hc
theorem chtE_15 (h : t.length ≠ ls.length) : chtE ⟨H, Z, ls⟩ t = 15 ∧ chtR ⟨H, Z, ls⟩ t = 0 := by
  have e : chtE ⟨H, Z, ls⟩ t = 15 := by rw [chtE, if_neg (by simpa using hc), if_pos h]
  exact ⟨e, if_neg (by rw [e]; decide)⟩
theorem chtE_3 (h : t.length = ls.length) (h2 : inL 0 ((ls.length : Int) - 1) t = false) : chtE ⟨H, Z, ls⟩ t = 3 ∧ chtR ⟨H, Z, ls⟩ t = 0 := by
  have e : chtE ⟨H, Z, ls⟩ t = 3 := by rw [chtE, if_neg (by simpa using hc), if_neg (by simpa using h), if_pos h2]
  exact ⟨e, if_neg (by rw [e]; decide)⟩
theorem chtE_19 (h : t.length = ls.length) (h2 : inL 0 ((ls.length : Int) - 1) t = true) (h3 : cfl Z H ls t = true) : chtE ⟨H, Z, ls⟩ t = 19 ∧ chtR ⟨H, Z, ls⟩ t = 0 := by
  have e : chtE ⟨H, Z, ls⟩ t = 19 := by rw [chtE, if_neg (by simpa using hc), if_neg (by simpa using h), if_neg (by simp only; rw [h2]; decide)]; exact if_pos h3
  exact ⟨e, if_neg (by rw [e]; decide)⟩
theorem chtE_0 (h : t.length = ls.length) (h2 : inL 0 ((ls.length : Int) - 1) t = true) (h3 : cfl Z H ls t = false) : chtE ⟨H, Z, ls⟩ t = 0 ∧ chtR ⟨H, Z, ls⟩ t = (difQ t : Nat) := by
  have e : chtE ⟨H, Z, ls⟩ t = 0 := by rw [chtE, if_neg (by simpa using hc), if_neg (by simpa using h), if_neg (by simp only; rw [h2]; decide), if_neg (by simp only; rw [show cfl (Int.toNat (Z : Int)) (Int.toNat (H : Int)) ls t = false from h3]; decide)]
  exact ⟨e, if_pos e⟩
end
theorem tin_e (s : Sk) (c : Option Nat) (hl : s.ls.length ≤ 1000000) (hbl : ∀ l ∈ s.ls, l.length ≤ 1000000) (hE : chkS s ≠ 0) : Pure Try.prog 37 [.agg [i64 s.h, i64 s.z, landsA s.ls c]] (.tup [intsA ([] : List Int) none, i64 (chkS s)]) := by
  refine pure_of_body Try.func37 (c := body Try.f37) J (by simp [Try.ntmps37]) fun w0 Φ0 => ?_
  refine Wsr J J ?_
  refine Rv J J J (U_boxF J J J) J J ?_
  refine Rv J J J (U_assign J) J J ?_
  refine Rv J J J (U_assign J) J J ?_
  refine Rt J ?_
  refine Wsr J J ?_
  refine Rv J J J (U_load3 J J J J J) J J ?_
  refine Rv J J J (U_call J J (openE0_p s c hl hbl (by rw [opS_nil]; assumption)) J) J J ?_
  refine Rv J J J (U_move J) J J ?_
  refine Rv J J J (U_extract J J) J J ?_
  refine Rv J J J (U_extract J J) J J ?_
  refine Rv J J J (U_assign J) J J ?_
  refine Rv J J J (U_assign J) J J ?_
  refine Rt J ?_
  refine W_seq J ?_
  refine Wsr J J ?_
  refine Rv J J J (U_move J) J J ?_
  refine Rv J J J (U_neq J J) J J ?_
  refine Rt J ?_
  refine WcondP J J (fun hc0 => ?_) (fun hc0 => absurd (by rw [opS_nil]; exact hE) hc0)
  refine Wsr J J ?_
  refine Rv J J J (U_move J) J J ?_
  refine Rv J J J (U_assign J) J J ?_
  refine Rv J J J (U_assign J) J J ?_
  refine Rt J ?_
  refine WweakT (j := 2) J (le_nils (cs := [])) ?_
  refine W_ret J ?_
  refine thenQ_r ?_
  exact retL (rlT J (rlT J rl0)) (by first | rfl | (simp only [packA]; rw [opS_nil]; first | done | rfl)) J
theorem cht_e (s : Sk) (c : Option Nat) (hl : s.ls.length ≤ 1000000) (hbl : ∀ l ∈ s.ls, l.length ≤ 1000000) (t : List Int) (e : Option Nat) (hl2 : t.length ≤ 1000000) (hE : chkS s ≠ 0) : Pure Try.prog 35 [.agg [i64 s.h, i64 s.z, landsA s.ls c], intsA t e] (.tup [i64 0, i64 (chkS s)]) := by
  refine pure_of_body Try.func35 (c := body Try.f35) J (by simp [Try.ntmps35]) fun w0 Φ0 => ?_
  refine Wsr J J ?_
  refine Rv J J J (U_boxF J J J) J J ?_
  refine Rv J J J (U_assign J) J J ?_
  refine Rv J J J (U_assign J) J J ?_
  refine Rt J ?_
  refine Wsr J J ?_
  refine Rv J J J (U_load3 J J J J J) J J ?_
  refine Rv J J J (U_call J J (openE0_p s c hl hbl (by rw [opS_nil]; assumption)) J) J J ?_
  refine Rv J J J (U_move J) J J ?_
  refine Rv J J J (U_extract J J) J J ?_
  refine Rv J J J (U_extract J J) J J ?_
  refine Rv J J J (U_assign J) J J ?_
  refine Rv J J J (U_assign J) J J ?_
  refine Rt J ?_
  refine W_seq J ?_
  refine W_block J ?_
  refine Wsr J J ?_
  refine Rv J J J (U_move J) J J ?_
  refine Rv J J J (U_neq J J) J J ?_
  refine Rv J J J (U_assign J) J J ?_
  refine Rt J ?_
  refine WcondP J J (fun hc0 => ?_) (fun hc0 => absurd (by rw [opS_nil]; exact hE) hc0)
  refine Wsr J J ?_
  refine Rv J J J (U_move J) J J ?_
  refine Rv J J J (U_assign J) J J ?_
  refine Rv J J J (U_assign J) J J ?_
  refine Rt J ?_
  refine W_ret J ?_
  refine blkQ_r ?_
  refine thenQ_r ?_
  exact retL (rlT J (rlT J rl0)) (by first | rfl | (simp only [packA]; rw [opS_nil]; first | done | rfl)) J
theorem index_p (l : List Int) (x : Int) (c : Option Nat) (hl : l.length ≤ 1000000) : Pure Try.prog 103 [intsA l c, i64 x] (i64 (idxI (fun y => decide (x = y)) l)) := by
  refine pure_of_body Try.func103 (c := body Try.f103) J (by simp [Try.ntmps103]) fun w0 Φ0 => ?_
  refine Wsr J J ?_
  refine Rv J J J (U_assign J) J J ?_
  refine Rt J ?_
  refine W_seq J ?_
  refine Wsr J J ?_
  refine Rv J J J (U_move J) J J ?_
  refine Rv J J J (U_lenOf J len_ros) J J ?_
  refine Rv J J J (U_move J) J J ?_
  refine Rt J ?_
  refine W_block J ?_
  refine LoopTo (T' := [(0, .ros (l.map i64) l.length c), (1, i64 x), (7, i64 ((l.length : Nat) : Int)), (8, i64 ((0 : Nat) : Int))]) (H' := []) (n := 0) J (fun mz_ qz_ => ∃ (k : Nat), k ≤ l.length ∧ (∀ j (hj : j < l.length), j < k → decide (x = l[j]) = false) ∧ mz_ = l.length - k ∧ qz_ = ⟨[(0, .ros (l.map i64) l.length c), (1, i64 x), (7, i64 ((l.length : Nat) : Int)), (8, i64 ((k : Nat) : Int))], [], 0, []⟩) ⟨0, (by omega), (fun j hj h => absurd h (Nat.not_lt_zero _)), J, J⟩ id ⟨eD J J, eD J J, eD J J, eD J J, trivial⟩ trivial J J J J (fun _ _ => J) ?_
  rintro _ _ ⟨k, hi0_0, hi0_1, rfl, rfl⟩
  refine Wsr J J ?_
  refine Rv J J J (U_lss J J) J J ?_
  refine Rt J ?_
  refine W_seq J ?_
  refine WcondP J J (fun hc0 => ?_) (fun hc0 => ?_)
  · have hck : k < l.length := by omega
    refine W_skip J ?_
    refine thenQ_n ?_
    refine W_seq J ?_
    refine W_block J ?_
    refine Wsr J J ?_
    refine Rv J J J (U_move J) J J ?_
    refine Rv J J J (U_assign J) J J ?_
    refine Rt J ?_
    refine Wsr J J ?_
    refine Rv J J J (U_move J) J J ?_
    refine Rv J J J (U_move J) J J ?_
    refine Rv J J J (U_move J) J J ?_
    have hx1 : k < l.length := by omega
    refine Rv J J J (U_indexR (j := k) J J J hx1) J J ?_
    refine Rv J J J (U_load1 J J (getM hx1)) J J ?_
    refine Rv J J J (U_eql J J) J J ?_
    refine Rt J ?_
    refine WcondP J J (fun hc1 => ?_) (fun hc1 => ?_)
    · refine Wsr J J ?_
      refine Rv J J J (U_move J) J J ?_
      refine Rv J J J (U_assign J) J J ?_
      refine Rt J ?_
      refine W_ret J ?_
      refine blkQ_r ?_
      refine thenQ_r ?_
      refine thenQ_r ?_
      refine blkQ_r ?_
      refine thenQ_r ?_
      exact retL (rlT J rl0) (by first | rfl | (simp only [packA]; rw [idx_hit (p := fun y => decide (x = y)) hck hi0_1 (by simpa using hc1)]; first | done | rfl) | (simp only [packA]; rw [idx_end (p := fun y => decide (x = y)) fun j hj => hi0_1 j hj (by omega)]; first | done | rfl)) J
    · refine W_skip J ?_
      refine blkQ_n ?_
      refine thenQ_n ?_
      refine W_reg J ?_
      refine Rv J J J (U_add J J (w64e (m := ((k + 1 : Nat) : Int)) (by omega) (by omega) (by omega))) J J ?_
      refine Rv J J J (U_move J) J J ?_
      refine Rt J ?_
      exact againTo (T' := [(0, .ros (l.map i64) l.length c), (1, i64 x), (7, i64 ((l.length : Nat) : Int)), (8, i64 (((k + 1) : Nat) : Int))]) (H' := []) (n := 0) (l.length - (k + 1)) ⟨k + 1, (by omega), (by intro j hj h; rcases Nat.lt_succ_iff_lt_or_eq.1 h with h | rfl; exact hi0_1 j hj h; simpa using hc1), J, J⟩ (by omega) id ⟨eD J J, eD J J, eD J J, eD J J, trivial⟩ trivial J J J J (fun _ _ => J)
  · refine W_exit J ?_
    refine thenQ_x ?_
    refine thenQ_x ?_
    refine blkQ_x J ?_
    refine thenQ_n ?_
    refine Wsr J J ?_
    refine Rv J J J (U_assign J) J J ?_
    refine Rt J ?_
    refine W_ret J ?_
    exact retL (rlT J rl0) (by first | rfl | (simp only [packA]; rw [idx_hit (p := fun y => decide (x = y)) hck hi0_1 (by simpa using hc1)]; first | done | rfl) | (simp only [packA]; rw [idx_end (p := fun y => decide (x = y)) fun j hj => hi0_1 j hj (by omega)]; first | done | rfl)) J
theorem contains_p (l : List Int) (x : Int) (c : Option Nat) (hl : l.length ≤ 1000000) : Pure Try.prog 84 [intsA l c, i64 x] (.bool (l.any fun y => decide (x = y))) := by
  refine pure_of_body Try.func84 (c := body Try.f84) J (by simp [Try.ntmps84]) fun w0 Φ0 => ?_
  refine Wsr J J ?_
  refine Rv J J J (U_assign J) J J ?_
  refine Rt J ?_
  refine Wsr J J ?_
  refine Rv J J J (U_move J) J J ?_
  refine Rv J J J (U_move J) J J ?_
  refine Rv J J J (U_call J J (index_p l x c (by first | assumption | omega)) J) J J ?_
  refine Rv J J J (U_geq J J) J J ?_
  refine Rv J J J (U_assign J) J J ?_
  refine Rt J ?_
  refine W_ret J ?_
  exact retL (rlT J rl0) (by first | rfl | (simp only [packA]; rw [← idx_any]; first | done | rfl)) J
theorem containsT_p (l : List Int) (i : Nat) (x : Int) (h : i ≤ l.length) (hl : l.length ≤ 1000000) : Pure Try.prog 84 [.ros ((l.take i).map i64) i none, i64 x] (.bool ((l.take i).any fun y => decide (x = y))) := by
  have h1 : (l.take i).length = i := by simp; omega
  have h2 := contains_p (l.take i) x none (by omega)
  unfold intsA at h2
  rwa [h1] at h2
theorem tin_g (H Z : Nat) (ls : List (List Bx)) (c : Option Nat) (hc : chkS ⟨H, Z, ls⟩ = 0) (hv : VS ⟨H, Z, ls⟩ H Z) : Pure Try.prog 37 [.agg [i64 (H : Nat), i64 (Z : Nat), landsA ls c]] (.tup [intsA (tinQ (ntrK Z H ls ls.length)) none, i64 0]) := by
  have hv' := hv
  obtain ⟨_, _, hH, hZ1, hln, hlb, hbx⟩ := hv'
  simp only at hln hlb hbx
  have hZ := hZ1.2
  have hHZ : Z * H ≤ 1152 := Nat.mul_le_mul hZ hH.2
  have hHZc : H * Z = Z * H := Nat.mul_comm _ _
  have htl : (tinQ (ntrK Z H ls ls.length)).length = ls.length := by rw [tin_len ntr_ok, ntrK_len]
  refine pure_of_body Try.func37 (c := body Try.f37) J (by simp [Try.ntmps37]) fun w0 Φ0 => ?_
  refine Wsr J J ?_
  refine Rv J J J (U_boxF J J J) J J ?_
  refine Rv J J J (U_assign J) J J ?_
  refine Rv J J J (U_assign J) J J ?_
  refine Rt J ?_
  refine Wsr J J ?_
  refine Rv J J J (U_load3 J J J J J) J J ?_
  refine Rv J J J (U_call J J (openG0_p H Z ls c hc hv) J) J J ?_
  refine Rv J J J (U_move J) J J ?_
  refine Rv J J J (U_extract J J) J J ?_
  refine Rv J J J (U_extract J J) J J ?_
  refine Rv J J J (U_assign J) J J ?_
  refine Rv J J J (U_assign J) J J ?_
  refine Rt J ?_
  refine W_seq J ?_
  refine Wsr J J ?_
  refine Rv J J J (U_move J) J J ?_
  refine Rv J J J (U_neq J J) J J ?_
  refine Rt J ?_
  refine WcondP J J (fun h => absurd h (by decide)) (fun _ => ?_)
  refine W_skip J ?_
  refine thenQ_n ?_
  refine Wsr J J ?_
  refine Rv J J J (U_fieldAddrR J) J J ?_
  refine Rv J J J (U_load1 J J J) J J ?_
  refine Rv J J J (U_lenOf J len_ros) J J ?_
  refine Ra J J J (U_mkL (n := ls.length) (cs' := (List.replicate ls.length (0 : Int)).map i64) J J J (by omega) (replM J _)) J J J ?_
  refine Rv J J J (U_assign J) J J ?_
  refine Rt J ?_
  refine Wsr J J ?_
  refine Rv J J J (U_move J) J J ?_
  refine Rv J J J (U_move J) J J ?_
  refine Rv J J J (U_call J J (tints_p H Z ls c (by omega) (by omega) (by omega)) J) J J ?_
  refine Ra J J J (U_copy (news := (tinQ (ntrK Z H ls ls.length)).map i64) (cs' := (tinQ (ntrK Z H ls ls.length)).map i64) J J J (by simp) ((srcR (map_len1 _)).trans (congrArg (fun n => some (((tinQ (ntrK Z H ls ls.length)).map i64), n)) htl)) (allM (fun _ => J) _) (copyM (by simp; omega))) J J J ?_
  refine Rt J ?_
  refine Wsr J J ?_
  refine Rv J J J (U_move J) J J ?_
  refine Rv J J J (U_assign J) J J ?_
  refine Rv J J J (U_assign J) J J ?_
  refine Rt J ?_
  refine WfrN 0 J (mapD (fun _ => J) _) (T' := [(2, .ros ((tinQ (ntrK Z H ls ls.length)).map i64) ls.length (some ls.length)), (3, i64 0)]) (H' := []) ⟨⟨_, J, fr_sl (Nat.le_refl _)⟩, ⟨_, J, J⟩, trivial⟩ trivial ?_
  refine WweakT (j := 2) J le_cap ?_
  refine W_ret J ?_
  exact retL (rlT J (rlT J rl0)) (by first | rfl | (simp only [packA]; exact congrArg (fun n => AV.tup [.ros ((tinQ (ntrK Z H ls ls.length)).map i64) n none, i64 0]) htl.symm; first | done | rfl)) J
def noC (Z H : Nat) (ls : List (List Bx)) (t : List Int) (i : Nat) : Prop := ∀ i' k' (hi : i' < ls.length) (hk : k' < i') (hl : t.length = ls.length), i' < i → ¬ (t[i'] = t[k'] ∧ nrQ Z H ls[i'] ls[k'] = true)
def noR (Z H : Nat) (ls : List (List Bx)) (t : List Int) (i k : Nat) : Prop := ∀ k' (hi : i < ls.length) (hk : k' < i) (hl : t.length = ls.length), k' < k → ¬ (t[i] = t[k'] ∧ nrQ Z H ls[i] ls[k'] = true)
theorem noC_succ {Z H : Nat} {ls : List (List Bx)} {t : List Int} {i : Nat} (h : noC Z H ls t i) (h2 : noR Z H ls t i i) : noC Z H ls t (i + 1) := fun i' k' hi hk hl hlt => by
  by_cases e : i' = i
  · subst e; exact h2 k' hi hk hl hk
  · exact h i' k' hi hk hl (by omega)
theorem noR_succ {Z H : Nat} {ls : List (List Bx)} {t : List Int} {i k : Nat} (h : noR Z H ls t i k) (hi : i < ls.length) (hk : k < i) (hl : t.length = ls.length) (h2 : ¬ (t[i] = t[k] ∧ nrQ Z H ls[i] ls[k] = true)) : noR Z H ls t i (k + 1) := fun k' hi hk' hl hlt => by
  by_cases e : k' = k
  · subst e; exact h2
  · exact h k' hi hk' hl (by omega)
theorem noC_0 {Z H : Nat} {ls : List (List Bx)} {t : List Int} : noC Z H ls t 0 := fun _ _ _ _ _ h => absurd h (Nat.not_lt_zero _)
theorem noR_0 {Z H : Nat} {ls : List (List Bx)} {t : List Int} {i : Nat} : noR Z H ls t i 0 := fun _ _ _ _ h => absurd h (Nat.not_lt_zero _)
theorem noC_all {Z H : Nat} {ls : List (List Bx)} {t : List Int} (hl : t.length = ls.length) (h : noC Z H ls t ls.length) : cfl Z H ls t = false := cfl_false hl fun i k hi hk => h i k hi hk hl hi
theorem cht_g (H Z : Nat) (ls : List (List Bx)) (c : Option Nat) (hc : chkS ⟨H, Z, ls⟩ = 0) (hv : VS ⟨H, Z, ls⟩ H Z) (t : List Int) (e : Option Nat) (hl2 : t.length ≤ 1000000) : Pure Try.prog 35 [.agg [i64 (H : Nat), i64 (Z : Nat), landsA ls c], intsA t e] (.tup [i64 (chtR ⟨H, Z, ls⟩ t), i64 (chtE ⟨H, Z, ls⟩ t)]) := by
  have hv' := hv
  obtain ⟨_, _, hH, hZ1, hln, hlb, hbx⟩ := hv'
  simp only at hln hlb hbx
  have hZ := hZ1.2
  have hHZ : Z * H ≤ 1152 := Nat.mul_le_mul hZ hH.2
  have hHZc : H * Z = Z * H := Nat.mul_comm _ _
  refine pure_of_body Try.func35 (c := body Try.f35) J (by simp [Try.ntmps35]) fun w0 Φ0 => ?_
  refine Wsr J J ?_
  refine Rv J J J (U_boxF J J J) J J ?_
  refine Rv J J J (U_assign J) J J ?_
  refine Rv J J J (U_assign J) J J ?_
  refine Rt J ?_
  refine Wsr J J ?_
  refine Rv J J J (U_load3 J J J J J) J J ?_
  refine Rv J J J (U_call J J (openG0_p H Z ls c hc hv) J) J J ?_
  refine Rv J J J (U_move J) J J ?_
  refine Rv J J J (U_extract J J) J J ?_
  refine Rv J J J (U_extract J J) J J ?_
  refine Rv J J J (U_assign J) J J ?_
  refine Rv J J J (U_assign J) J J ?_
  refine Rt J ?_
  refine W_seq J ?_
  refine W_block J ?_
  refine Wsr J J ?_
  refine Rv J J J (U_move J) J J ?_
  refine Rv J J J (U_neq J J) J J ?_
  refine Rv J J J (U_assign J) J J ?_
  refine Rt J ?_
  refine WcondP J J (fun h => absurd h (by decide)) (fun _ => ?_)
  refine Wsr J J ?_
  refine Rv J J J (U_move J) J J ?_
  refine Rv J J J (U_lenOf J len_ros) J J ?_
  refine Rv J J J (U_fieldAddrR J) J J ?_
  refine Rv J J J (U_load1 J J J) J J ?_
  refine Rv J J J (U_lenOf J len_ros) J J ?_
  refine Rv J J J (U_neq J J) J J ?_
  refine Rv J J J (U_assign J) J J ?_
  refine Rt J ?_
  refine WcondP J J (fun hc1 => ?_) (fun hc1 => ?_)
  · have h15 := chtE_15 (t := t) hc (by omega)
    refine Wsr J J ?_
    refine Rv J J J (U_assign J) J J ?_
    refine Rv J J J (U_assign J) J J ?_
    refine Rt J ?_
    refine W_ret J ?_
    refine blkQ_r ?_
    refine thenQ_r ?_
    exact retL (rlT J (rlT J rl0)) (by first | rfl | (simp only [packA]; rw [h15.1, h15.2]; first | done | rfl) | (simp only [packA]; rw [h3.1, h3.2]; first | done | rfl) | (simp only [packA]; rw [h19.1, h19.2]; first | done | rfl) | (simp only [packA]; rw [h0.1, h0.2, hi0_1, show i = t.length by omega]; rfl; first | done | rfl)) J
  · rw [Decidable.not_not] at hc1
    have hlen : t.length = ls.length := by omega
    refine Wsr J J ?_
    refine Rv J J J (U_move J) J J ?_
    refine Rv J J J (U_lenOf J len_ros) J J ?_
    refine Rv J J J (U_sub J J (w64 (by omega) (by omega))) J J ?_
    refine Rv J J J (U_move J) J J ?_
    refine Rv J J J (U_call J J (within_p 0 (((t.length : Nat) : Int) - 1) t e (by first | assumption | omega | (simp; done) | (simp; omega))) J) J J ?_
    refine Rv J J J (U_not J) J J ?_
    refine Rv J J J (U_assign J) J J ?_
    refine Rt J ?_
    refine Wcond J J (fun hc2 => ?_) (fun hc2 => ?_)
    · have h3 := chtE_3 (t := t) hc hlen (by rw [← hlen]; simpa using hc2)
      refine Wsr J J ?_
      refine Rv J J J (U_assign J) J J ?_
      refine Rv J J J (U_assign J) J J ?_
      refine Rt J ?_
      refine W_ret J ?_
      refine blkQ_r ?_
      refine thenQ_r ?_
      exact retL (rlT J (rlT J rl0)) (by first | rfl | (simp only [packA]; rw [h15.1, h15.2]; first | done | rfl) | (simp only [packA]; rw [h3.1, h3.2]; first | done | rfl) | (simp only [packA]; rw [h19.1, h19.2]; first | done | rfl) | (simp only [packA]; rw [h0.1, h0.2, hi0_1, show i = t.length by omega]; rfl; first | done | rfl)) J
    · have hc2' := Bool.eq_false_iff.1 hc2
      have hinl : inL 0 ((ls.length : Int) - 1) t = true := by rw [← hlen]; simpa using hc2
      refine W_skip J ?_
      refine blkQ_n ?_
      refine thenQ_n ?_
      refine Wsr J J ?_
      refine Rv J J J (U_assign J) J J ?_
      refine Rt J ?_
      refine W_seq J ?_
      refine Wsr J J ?_
      refine Rv J J J (U_move J) J J ?_
      refine Rv J J J (U_lenOf J len_ros) J J ?_
      refine Rv J J J (U_move J) J J ?_
      refine Rt J ?_
      refine W_block J ?_
      refine LoopTo (T' := [(1, .ros (t.map i64) t.length e), (6, .rop [i64 ((H : Nat) : Int), i64 ((Z : Nat) : Int), .ros (ls.map boxesL) ls.length c, .ros ((chQ Z H ls).map rowsL) ((chQ Z H ls).length) none] 0), (8, i64 ((0 : Nat) : Int)), (36, .ros (t.map i64) t.length e), (37, i64 ((t.length : Nat) : Int)), (38, i64 ((0 : Nat) : Int))]) (H' := []) (n := 0) J (fun mz_ qz_ => ∃ (i : Nat) (n : Nat), i ≤ t.length ∧ n = difK t i ∧ noC Z H ls t i ∧ mz_ = t.length - i ∧ qz_ = ⟨[(1, .ros (t.map i64) t.length e), (6, .rop [i64 ((H : Nat) : Int), i64 ((Z : Nat) : Int), .ros (ls.map boxesL) ls.length c, .ros ((chQ Z H ls).map rowsL) ((chQ Z H ls).length) none] 0), (8, i64 ((n : Nat) : Int)), (36, .ros (t.map i64) t.length e), (37, i64 ((t.length : Nat) : Int)), (38, i64 ((i : Nat) : Int))], [], 0, []⟩) ⟨0, 0, (by omega), J, noC_0, J, J⟩ id ⟨eD J J, eD J J, eD J J, eD J J, eD J J, eD J J, trivial⟩ trivial J J J J (fun _ _ => J) ?_
      rintro _ _ ⟨i, n, hi0_0, hi0_1, hi0_2, rfl, rfl⟩
      have hni : n ≤ i := by rw [hi0_1]; exact difK_le
      refine Wsr J J ?_
      refine Rv J J J (U_lss J J) J J ?_
      refine Rt J ?_
      refine W_seq J ?_
      refine WcondP J J (fun hc3 => ?_) (fun hc3 => ?_)
      · have hci : i < t.length := by omega
        refine W_skip J ?_
        refine thenQ_n ?_
        refine W_seq J ?_
        refine W_block J ?_
        refine Wsr J J ?_
        refine Rv J J J (U_move J) J J ?_
        have hx1 : i < t.length := by omega
        refine Rv J J J (U_indexR (j := i) J J J hx1) J J ?_
        refine Rv J J J (U_load1 J J (getM hx1)) J J ?_
        refine Rv J J J (U_assign J) J J ?_
        refine Rv J J J (U_assign J) J J ?_
        refine Rt J ?_
        refine W_seq J ?_
        refine Wsr J J ?_
        refine Rv J J J (U_move J) J J ?_
        refine Rv J J J (U_move J) J J ?_
        have hs2 : i ≤ t.length := by omega
        refine Rv J J J (U_sliceToL J J hs2 (mapD (fun _ => J) _) (takeM _ _)) J J ?_
        refine Rv J J J (U_move J) J J ?_
        refine Rv J J J (U_call J J (containsT_p t i t[i] (by omega) (by omega)) J) J J ?_
        refine Rv J J J (U_not J) J J ?_
        refine Rt J ?_
        refine Wcond J J (fun hc4 => ?_) (fun hc4 => ?_)
        · have hnd : n + 1 = difK t (i + 1) := by rw [hi0_1, difK_t hci fun j hj h1 h2 => ?_]; simp only [Bool.not_eq_true'] at hc4; rw [Bool.eq_false_iff] at hc4; exact hc4 ((tak_any hci).2 ⟨j, h1, hj, h2⟩)
          refine W_reg J ?_
          refine Rv J J J (U_move J) J J ?_
          refine Rv J J J (U_add J J (w64e (m := ((n + 1 : Nat) : Int)) (by omega) (by omega) (by omega))) J J ?_
          refine Rv J J J (U_assign J) J J ?_
          refine Rt J ?_
          refine Wsr J J ?_
          refine Rv J J J (U_move J) J J ?_
          refine Rv J J J (U_move J) J J ?_
          have hs3 : i ≤ t.length := by omega
          refine Rv J J J (U_sliceToL J J hs3 (mapD (fun _ => J) _) (takeM _ _)) J J ?_
          refine Rv J J J (U_lenOf J len_ros) J J ?_
          refine Rv J J J (U_move J) J J ?_
          refine Rt J ?_
          refine W_block J ?_
          refine LoopTo (T' := [(1, .ros (t.map i64) t.length e), (6, .rop [i64 ((H : Nat) : Int), i64 ((Z : Nat) : Int), .ros (ls.map boxesL) ls.length c, .ros ((chQ Z H ls).map rowsL) ((chQ Z H ls).length) none] 0), (8, i64 ((n + 1 : Nat) : Int)), (9, i64 ((i : Nat) : Int)), (10, i64 t[i]), (36, .ros (t.map i64) t.length e), (37, i64 ((t.length : Nat) : Int)), (38, i64 ((i : Nat) : Int)), (53, .ros ((t.take i).map i64) i none), (54, i64 ((i : Nat) : Int)), (55, i64 ((0 : Nat) : Int))]) (H' := []) (n := 0) J (fun mz_ qz_ => ∃ (k : Nat), k ≤ i ∧ noR Z H ls t i k ∧ mz_ = i - k ∧ qz_ = ⟨[(1, .ros (t.map i64) t.length e), (6, .rop [i64 ((H : Nat) : Int), i64 ((Z : Nat) : Int), .ros (ls.map boxesL) ls.length c, .ros ((chQ Z H ls).map rowsL) ((chQ Z H ls).length) none] 0), (8, i64 ((n + 1 : Nat) : Int)), (9, i64 ((i : Nat) : Int)), (10, i64 t[i]), (36, .ros (t.map i64) t.length e), (37, i64 ((t.length : Nat) : Int)), (38, i64 ((i : Nat) : Int)), (53, .ros ((t.take i).map i64) i none), (54, i64 ((i : Nat) : Int)), (55, i64 ((k : Nat) : Int))], [], 0, []⟩) ⟨0, (by omega), noR_0, J, J⟩ id ⟨eD J J, eD J J, eD J J, eD J J, eD J J, eD J J, eD J J, eD J J, eD J J, eD J J, eD J J, trivial⟩ trivial J J J J (fun _ _ => J) ?_
          rintro _ _ ⟨k, hi1_0, hi1_1, rfl, rfl⟩
          refine Wsr J J ?_
          refine Rv J J J (U_lss J J) J J ?_
          refine Rt J ?_
          refine W_seq J ?_
          refine WcondP J J (fun hc5 => ?_) (fun hc5 => ?_)
          · have hck : k < i := by omega
            have htk : (t.take i).length = i := by simp; omega
            refine W_skip J ?_
            refine thenQ_n ?_
            refine W_seq J ?_
            refine W_block J ?_
            refine Wsr J J ?_
            refine Rv J J J (U_move J) J J ?_
            have hx4 : k < (t.take i).length := by omega
            refine Rv J J J (U_indexR (j := k) J J J (by omega)) J J ?_
            refine Rv J J J (U_load1 J J (getM hx4)) J J ?_
            refine Rv J J J (U_assign J) J J ?_
            refine Rv J J J (U_assign J) J J ?_
            refine Rt J ?_
            refine W_seq J ?_
            refine Wjoin ⟨[(1, .ros (t.map i64) t.length e), (6, .rop [i64 ((H : Nat) : Int), i64 ((Z : Nat) : Int), .ros (ls.map boxesL) ls.length c, .ros ((chQ Z H ls).map rowsL) ((chQ Z H ls).length) none] 0), (8, i64 ((n + 1 : Nat) : Int)), (9, i64 ((i : Nat) : Int)), (10, i64 t[i]), (36, .ros (t.map i64) t.length e), (37, i64 ((t.length : Nat) : Int)), (38, i64 ((i : Nat) : Int)), (53, .ros ((t.take i).map i64) i none), (54, i64 ((i : Nat) : Int)), (55, i64 ((k : Nat) : Int)), (68, .bool ((decide (t[i] = ((t.take i)[k]))) && (nrQ Z H ls[i] ls[k])))], [], 0, []⟩ ?_ ?_
            · refine W_reg J ?_
              refine Rv J J J (U_move J) J J ?_
              refine Rv J J J (U_move J) J J ?_
              refine Rv J J J (U_eql J J) J J ?_
              refine Rv J J J (U_move J) J J ?_
              refine Rsplit (t := 63) J (fun hg5 => ?_) (fun hg5 => ?_)
              · rw [hg5]
                have hg5' : t[i] = ((t.take i)[k]) := of_decide_eq_true hg5
                refine Rv J J J (U_move J) J J ?_
                refine Rv J J J (U_move J) J J ?_
                refine Rv J J J (U_move J) J J ?_
                refine Rv J J J (U_call J J (near_p H Z ls c i k (by omega) (by omega) (by omega) (by omega)) J) J J ?_
                refine Rv J J J (U_pick_t J J) J J ?_
                refine Re J ?_
                exact joinTo id ⟨eD J J, eD J J, eD J J, eD J J, eD J J, eD J J, eD J J, eD J J, eD J J, eD J J, eD J J, eD J J, trivial⟩ trivial J J J J (fun _ _ => J)
              · rw [hg5]
                have hg5' : ¬ (t[i] = ((t.take i)[k])) := of_decide_eq_false hg5
                refine Rs J J J J J ?_
                refine Rs J J J J J ?_
                refine Rs J J J J J ?_
                refine Rs J J J J J ?_
                refine Rv J J J (U_pick_f J J) J J ?_
                refine Re J ?_
                exact joinTo id ⟨eD J J, eD J J, eD J J, eD J J, eD J J, eD J J, eD J J, eD J J, eD J J, eD J J, eD J J, eD J J, trivial⟩ trivial J J J J (fun _ _ => J)
            refine thenQ_n ?_
            refine Wcond J J (fun hc6 => ?_) (fun hc6 => ?_)
            · have h19 := chtE_19 hc hlen hinl (cfl_true (i := i) (k := k) hlen (by omega) hck (by simp at hc6; exact hc6.1) (by simp at hc6; exact hc6.2))
              refine Wsr J J ?_
              refine Rv J J J (U_assign J) J J ?_
              refine Rv J J J (U_assign J) J J ?_
              refine Rt J ?_
              refine W_ret J ?_
              refine blkQ_r ?_
              refine thenQ_r ?_
              refine thenQ_r ?_
              refine blkQ_r ?_
              refine blkQ_r ?_
              refine thenQ_r ?_
              refine thenQ_r ?_
              refine blkQ_r ?_
              refine thenQ_r ?_
              exact retL (rlT J (rlT J rl0)) (by first | rfl | (simp only [packA]; rw [h15.1, h15.2]; first | done | rfl) | (simp only [packA]; rw [h3.1, h3.2]; first | done | rfl) | (simp only [packA]; rw [h19.1, h19.2]; first | done | rfl) | (simp only [packA]; rw [h0.1, h0.2, hi0_1, show i = t.length by omega]; rfl; first | done | rfl)) J
            · have hc6' := Bool.eq_false_iff.1 hc6
              have hno : ¬ (t[i] = t[k] ∧ nrQ Z H ls[i] ls[k] = true) := by simpa using hc6
              refine W_skip J ?_
              refine blkQ_n ?_
              refine thenQ_n ?_
              refine W_reg J ?_
              refine Rv J J J (U_add J J (w64e (m := ((k + 1 : Nat) : Int)) (by omega) (by omega) (by omega))) J J ?_
              refine Rv J J J (U_move J) J J ?_
              refine Rt J ?_
              exact againTo (T' := [(1, .ros (t.map i64) t.length e), (6, .rop [i64 ((H : Nat) : Int), i64 ((Z : Nat) : Int), .ros (ls.map boxesL) ls.length c, .ros ((chQ Z H ls).map rowsL) ((chQ Z H ls).length) none] 0), (8, i64 ((n + 1 : Nat) : Int)), (9, i64 ((i : Nat) : Int)), (10, i64 t[i]), (36, .ros (t.map i64) t.length e), (37, i64 ((t.length : Nat) : Int)), (38, i64 ((i : Nat) : Int)), (53, .ros ((t.take i).map i64) i none), (54, i64 ((i : Nat) : Int)), (55, i64 (((k + 1) : Nat) : Int))]) (H' := []) (n := 0) (i - (k + 1)) ⟨k + 1, (by omega), (noR_succ hi1_1 (by omega) (by omega) hlen (by simpa using hno)), J, J⟩ (by omega) id ⟨eD J J, eD J J, eD J J, eD J J, eD J J, eD J J, eD J J, eD J J, eD J J, eD J J, eD J J, trivial⟩ trivial J J J J (fun _ _ => J)
          · have hrow : noR Z H ls t i i := by rw [show k = i by omega] at hi1_1; exact hi1_1
            refine W_exit J ?_
            refine thenQ_x ?_
            refine thenQ_x ?_
            refine blkQ_x J ?_
            refine blkQ_n ?_
            refine thenQ_n ?_
            refine W_reg J ?_
            refine Rv J J J (U_add J J (w64e (m := ((i + 1 : Nat) : Int)) (by omega) (by omega) (by omega))) J J ?_
            refine Rv J J J (U_move J) J J ?_
            refine Rt J ?_
            exact againTo (T' := [(1, .ros (t.map i64) t.length e), (6, .rop [i64 ((H : Nat) : Int), i64 ((Z : Nat) : Int), .ros (ls.map boxesL) ls.length c, .ros ((chQ Z H ls).map rowsL) ((chQ Z H ls).length) none] 0), (8, i64 (((n + 1) : Nat) : Int)), (36, .ros (t.map i64) t.length e), (37, i64 ((t.length : Nat) : Int)), (38, i64 (((i + 1) : Nat) : Int))]) (H' := []) (n := 0) (t.length - (i + 1)) ⟨i + 1, n + 1, (by omega), hnd, (noC_succ hi0_2 hrow), J, J⟩ (by omega) id ⟨eD J J, eD J J, eD J J, eD J J, eD J J, eD J J, trivial⟩ trivial J J J J (fun _ _ => J)
        · have hc4' := Bool.eq_false_iff.1 hc4
          have hnd : n = difK t (i + 1) := by obtain ⟨j, h1, hj, h2⟩ := (tak_any hci).1 (by simpa using hc4); rw [hi0_1, difK_f hci h1 h2]
          refine W_skip J ?_
          refine thenQ_n ?_
          refine Wsr J J ?_
          refine Rv J J J (U_move J) J J ?_
          refine Rv J J J (U_move J) J J ?_
          have hs6 : i ≤ t.length := by omega
          refine Rv J J J (U_sliceToL J J hs6 (mapD (fun _ => J) _) (takeM _ _)) J J ?_
          refine Rv J J J (U_lenOf J len_ros) J J ?_
          refine Rv J J J (U_move J) J J ?_
          refine Rt J ?_
          refine W_block J ?_
          refine LoopTo (T' := [(1, .ros (t.map i64) t.length e), (6, .rop [i64 ((H : Nat) : Int), i64 ((Z : Nat) : Int), .ros (ls.map boxesL) ls.length c, .ros ((chQ Z H ls).map rowsL) ((chQ Z H ls).length) none] 0), (8, i64 ((n : Nat) : Int)), (9, i64 ((i : Nat) : Int)), (10, i64 t[i]), (36, .ros (t.map i64) t.length e), (37, i64 ((t.length : Nat) : Int)), (38, i64 ((i : Nat) : Int)), (53, .ros ((t.take i).map i64) i none), (54, i64 ((i : Nat) : Int)), (55, i64 ((0 : Nat) : Int))]) (H' := []) (n := 0) J (fun mz_ qz_ => ∃ (k : Nat), k ≤ i ∧ noR Z H ls t i k ∧ mz_ = i - k ∧ qz_ = ⟨[(1, .ros (t.map i64) t.length e), (6, .rop [i64 ((H : Nat) : Int), i64 ((Z : Nat) : Int), .ros (ls.map boxesL) ls.length c, .ros ((chQ Z H ls).map rowsL) ((chQ Z H ls).length) none] 0), (8, i64 ((n : Nat) : Int)), (9, i64 ((i : Nat) : Int)), (10, i64 t[i]), (36, .ros (t.map i64) t.length e), (37, i64 ((t.length : Nat) : Int)), (38, i64 ((i : Nat) : Int)), (53, .ros ((t.take i).map i64) i none), (54, i64 ((i : Nat) : Int)), (55, i64 ((k : Nat) : Int))], [], 0, []⟩) ⟨0, (by omega), noR_0, J, J⟩ id ⟨eD J J, eD J J, eD J J, eD J J, eD J J, eD J J, eD J J, eD J J, eD J J, eD J J, eD J J, trivial⟩ trivial J J J J (fun _ _ => J) ?_
          rintro _ _ ⟨k, hi1_0, hi1_1, rfl, rfl⟩
          refine Wsr J J ?_
          refine Rv J J J (U_lss J J) J J ?_
          refine Rt J ?_
          refine W_seq J ?_
          refine WcondP J J (fun hc5 => ?_) (fun hc5 => ?_)
          · have hck : k < i := by omega
            have htk : (t.take i).length = i := by simp; omega
            refine W_skip J ?_
            refine thenQ_n ?_
            refine W_seq J ?_
            refine W_block J ?_
            refine Wsr J J ?_
            refine Rv J J J (U_move J) J J ?_
            have hx7 : k < (t.take i).length := by omega
            refine Rv J J J (U_indexR (j := k) J J J (by omega)) J J ?_
            refine Rv J J J (U_load1 J J (getM hx7)) J J ?_
            refine Rv J J J (U_assign J) J J ?_
            refine Rv J J J (U_assign J) J J ?_
            refine Rt J ?_
            refine W_seq J ?_
            refine Wjoin ⟨[(1, .ros (t.map i64) t.length e), (6, .rop [i64 ((H : Nat) : Int), i64 ((Z : Nat) : Int), .ros (ls.map boxesL) ls.length c, .ros ((chQ Z H ls).map rowsL) ((chQ Z H ls).length) none] 0), (8, i64 ((n : Nat) : Int)), (9, i64 ((i : Nat) : Int)), (10, i64 t[i]), (36, .ros (t.map i64) t.length e), (37, i64 ((t.length : Nat) : Int)), (38, i64 ((i : Nat) : Int)), (53, .ros ((t.take i).map i64) i none), (54, i64 ((i : Nat) : Int)), (55, i64 ((k : Nat) : Int)), (68, .bool ((decide (t[i] = ((t.take i)[k]))) && (nrQ Z H ls[i] ls[k])))], [], 0, []⟩ ?_ ?_
            · refine W_reg J ?_
              refine Rv J J J (U_move J) J J ?_
              refine Rv J J J (U_move J) J J ?_
              refine Rv J J J (U_eql J J) J J ?_
              refine Rv J J J (U_move J) J J ?_
              refine Rsplit (t := 63) J (fun hg8 => ?_) (fun hg8 => ?_)
              · rw [hg8]
                have hg8' : t[i] = ((t.take i)[k]) := of_decide_eq_true hg8
                refine Rv J J J (U_move J) J J ?_
                refine Rv J J J (U_move J) J J ?_
                refine Rv J J J (U_move J) J J ?_
                refine Rv J J J (U_call J J (near_p H Z ls c i k (by omega) (by omega) (by omega) (by omega)) J) J J ?_
                refine Rv J J J (U_pick_t J J) J J ?_
                refine Re J ?_
                exact joinTo id ⟨eD J J, eD J J, eD J J, eD J J, eD J J, eD J J, eD J J, eD J J, eD J J, eD J J, eD J J, eD J J, trivial⟩ trivial J J J J (fun _ _ => J)
              · rw [hg8]
                have hg8' : ¬ (t[i] = ((t.take i)[k])) := of_decide_eq_false hg8
                refine Rs J J J J J ?_
                refine Rs J J J J J ?_
                refine Rs J J J J J ?_
                refine Rs J J J J J ?_
                refine Rv J J J (U_pick_f J J) J J ?_
                refine Re J ?_
                exact joinTo id ⟨eD J J, eD J J, eD J J, eD J J, eD J J, eD J J, eD J J, eD J J, eD J J, eD J J, eD J J, eD J J, trivial⟩ trivial J J J J (fun _ _ => J)
            refine thenQ_n ?_
            refine Wcond J J (fun hc6 => ?_) (fun hc6 => ?_)
            · have h19 := chtE_19 hc hlen hinl (cfl_true (i := i) (k := k) hlen (by omega) hck (by simp at hc6; exact hc6.1) (by simp at hc6; exact hc6.2))
              refine Wsr J J ?_
              refine Rv J J J (U_assign J) J J ?_
              refine Rv J J J (U_assign J) J J ?_
              refine Rt J ?_
              refine W_ret J ?_
              refine blkQ_r ?_
              refine thenQ_r ?_
              refine thenQ_r ?_
              refine blkQ_r ?_
              refine blkQ_r ?_
              refine thenQ_r ?_
              refine thenQ_r ?_
              refine blkQ_r ?_
              refine thenQ_r ?_
              exact retL (rlT J (rlT J rl0)) (by first | rfl | (simp only [packA]; rw [h15.1, h15.2]; first | done | rfl) | (simp only [packA]; rw [h3.1, h3.2]; first | done | rfl) | (simp only [packA]; rw [h19.1, h19.2]; first | done | rfl) | (simp only [packA]; rw [h0.1, h0.2, hi0_1, show i = t.length by omega]; rfl; first | done | rfl)) J
            · have hc6' := Bool.eq_false_iff.1 hc6
              have hno : ¬ (t[i] = t[k] ∧ nrQ Z H ls[i] ls[k] = true) := by simpa using hc6
              refine W_skip J ?_
              refine blkQ_n ?_
              refine thenQ_n ?_
              refine W_reg J ?_
              refine Rv J J J (U_add J J (w64e (m := ((k + 1 : Nat) : Int)) (by omega) (by omega) (by omega))) J J ?_
              refine Rv J J J (U_move J) J J ?_
              refine Rt J ?_
              exact againTo (T' := [(1, .ros (t.map i64) t.length e), (6, .rop [i64 ((H : Nat) : Int), i64 ((Z : Nat) : Int), .ros (ls.map boxesL) ls.length c, .ros ((chQ Z H ls).map rowsL) ((chQ Z H ls).length) none] 0), (8, i64 ((n : Nat) : Int)), (9, i64 ((i : Nat) : Int)), (10, i64 t[i]), (36, .ros (t.map i64) t.length e), (37, i64 ((t.length : Nat) : Int)), (38, i64 ((i : Nat) : Int)), (53, .ros ((t.take i).map i64) i none), (54, i64 ((i : Nat) : Int)), (55, i64 (((k + 1) : Nat) : Int))]) (H' := []) (n := 0) (i - (k + 1)) ⟨k + 1, (by omega), (noR_succ hi1_1 (by omega) (by omega) hlen (by simpa using hno)), J, J⟩ (by omega) id ⟨eD J J, eD J J, eD J J, eD J J, eD J J, eD J J, eD J J, eD J J, eD J J, eD J J, eD J J, trivial⟩ trivial J J J J (fun _ _ => J)
          · have hrow : noR Z H ls t i i := by rw [show k = i by omega] at hi1_1; exact hi1_1
            refine W_exit J ?_
            refine thenQ_x ?_
            refine thenQ_x ?_
            refine blkQ_x J ?_
            refine blkQ_n ?_
            refine thenQ_n ?_
            refine W_reg J ?_
            refine Rv J J J (U_add J J (w64e (m := ((i + 1 : Nat) : Int)) (by omega) (by omega) (by omega))) J J ?_
            refine Rv J J J (U_move J) J J ?_
            refine Rt J ?_
            exact againTo (T' := [(1, .ros (t.map i64) t.length e), (6, .rop [i64 ((H : Nat) : Int), i64 ((Z : Nat) : Int), .ros (ls.map boxesL) ls.length c, .ros ((chQ Z H ls).map rowsL) ((chQ Z H ls).length) none] 0), (8, i64 ((n : Nat) : Int)), (36, .ros (t.map i64) t.length e), (37, i64 ((t.length : Nat) : Int)), (38, i64 (((i + 1) : Nat) : Int))]) (H' := []) (n := 0) (t.length - (i + 1)) ⟨i + 1, n, (by omega), hnd, (noC_succ hi0_2 hrow), J, J⟩ (by omega) id ⟨eD J J, eD J J, eD J J, eD J J, eD J J, eD J J, trivial⟩ trivial J J J J (fun _ _ => J)
      · have hcf := noC_all hlen (by rw [show ls.length = i by omega]; exact hi0_2)
        have h0 := chtE_0 hc hlen hinl hcf
        refine W_exit J ?_
        refine thenQ_x ?_
        refine thenQ_x ?_
        refine blkQ_x J ?_
        refine thenQ_n ?_
        refine Wsr J J ?_
        refine Rv J J J (U_move J) J J ?_
        refine Rv J J J (U_assign J) J J ?_
        refine Rv J J J (U_assign J) J J ?_
        refine Rt J ?_
        refine W_ret J ?_
        exact retL (rlT J (rlT J rl0)) (by first | rfl | (simp only [packA]; rw [h15.1, h15.2]; first | done | rfl) | (simp only [packA]; rw [h3.1, h3.2]; first | done | rfl) | (simp only [packA]; rw [h19.1, h19.2]; first | done | rfl) | (simp only [packA]; rw [h0.1, h0.2, hi0_1, show i = t.length by omega]; rfl; first | done | rfl)) J
theorem tinA_p (s : Sk) (c : Option Nat) (hl : s.ls.length ≤ 1000000) (hbl : ∀ l ∈ s.ls, l.length ≤ 1000000) : Pure Try.prog 37 [.agg [i64 s.h, i64 s.z, landsA s.ls c]] (.tup [intsA (tinR s) none, i64 (chkS s)]) := by
  by_cases hE : chkS s = 0
  · obtain ⟨H, Z, ls, rfl, hc, hv⟩ := chk_ok hE
    rw [tinR_g hc, hE]
    exact tin_g H Z ls c hc hv
  · have e : tinR s = [] := if_neg hE
    rw [e]
    exact tin_e s c hl hbl hE
theorem chtA_p (s : Sk) (c : Option Nat) (hl : s.ls.length ≤ 1000000) (hbl : ∀ l ∈ s.ls, l.length ≤ 1000000) (t : List Int) (e : Option Nat) (hl2 : t.length ≤ 1000000) : Pure Try.prog 35 [.agg [i64 s.h, i64 s.z, landsA s.ls c], intsA t e] (.tup [i64 (chtR s t), i64 (chtE s t)]) := by
  by_cases hE : chkS s = 0
  · obtain ⟨H, Z, ls, rfl, hc, hv⟩ := chk_ok hE
    exact cht_g H Z ls c hc hv t e hl2
  · rw [(chtE_e hE).1, (chtE_e hE).2]
    exact cht_e s c hl hbl t e hl2 hE
end Go.Proofs.Ythlolelbmhfdbaa
end

section
namespace Go.Proofs.Ythlolelbmhfdbaa
set_option maxRecDepth 20000
open Go.AE
theorem rowV_take {n m : Nat} {r : Row} (h : n ≤ m) : (rowV m r).take n = rowV n r := by
  apply List.ext_getElem (by simp [rowV]; omega)
  intro i h1 h2
  simp [rowV]
theorem le_row {n m : Nat} {r : Row} {c : Option Nat} (h : n ≤ m) : AV.le (.ros ((rowV m r).map i64) n c) (.ros ((rowV n r).map i64) (rowV n r).length none) := by
  have h1 := le_trans (le_cap (cs := (rowV m r).map i64) (n := n) (c := c)) (le_rosT (m := n) (mapD (fun _ => rfl) _))
  rwa [← List.map_take, rowV_take h, show AV.ros ((rowV n r).map i64) n none = .ros ((rowV n r).map i64) (rowV n r).length none by rw [rowV_len]] at h1
def widF (H : Nat) (p : Nat → Bool) (h : Nat) : Nat → Nat → Nat
  | 0, w => w
  | f + 1, w => if p ((h + w) % H) = true then widF H p h f (w + 1) else w
def widQ (H : Nat) (p : Nat → Bool) (h : Nat) : Nat := widF H p h (H - 1) 1
def rnsZ (H : Nat) (p : Nat → Bool) (z : Nat) : List Bx := if (List.range H).all p = true then [⟨0, H, z, ((z + 1 : Nat) : Int)⟩] else
  (List.range H).flatMap fun h => if p h = true ∧ p ((h + H - 1) % H) = false then [⟨h, widQ H p h, z, ((z + 1 : Nat) : Int)⟩] else []
def rnsK (H : Nat) (P : Nat → Nat → Bool) (z : Nat) : List Bx := (List.range z).flatMap fun z => rnsZ H (P z) z
def rnsH (H : Nat) (p : Nat → Bool) (z k : Nat) : List Bx := (List.range k).flatMap fun h => if p h = true ∧ p ((h + H - 1) % H) = false then [⟨h, widQ H p h, z, ((z + 1 : Nat) : Int)⟩] else []
section
variable {H z k h w : Nat} {p : Nat → Bool} {P : Nat → Nat → Bool}
theorem rnsK_succ : rnsK H P (z + 1) = rnsK H P z ++ rnsZ H (P z) z := by rw [rnsK, List.range_succ, List.flatMap_append]; simp [rnsK]
theorem rnsH_succ : rnsH H p z (k + 1) = rnsH H p z k ++ if p k = true ∧ p ((k + H - 1) % H) = false then [⟨k, widQ H p k, z, ((z + 1 : Nat) : Int)⟩] else [] := by rw [rnsH, List.range_succ, List.flatMap_append]; simp [rnsH]
theorem rnsH_f (h : ¬ (p k = true ∧ p ((k + H - 1) % H) = false)) : rnsH H p z (k + 1) = rnsH H p z k := by rw [rnsH_succ, if_neg h, List.append_nil]
theorem rnsH_t (h : p k = true ∧ p ((k + H - 1) % H) = false) : rnsH H p z (k + 1) = rnsH H p z k ++ [⟨k, widQ H p k, z, ((z + 1 : Nat) : Int)⟩] := by rw [rnsH_succ, if_pos h]
theorem rnsZ_all (h : ∀ j, j < H → p j = true) : rnsZ H p z = [⟨0, H, z, ((z + 1 : Nat) : Int)⟩] := if_pos (List.all_eq_true.2 fun j hj => h j (List.mem_range.1 hj))
theorem rnsZ_not (hk : k < H) (h : p k = false) : rnsZ H p z = rnsH H p z H := if_neg fun h2 => by
  have := List.all_eq_true.1 h2 k (List.mem_range.2 hk); rw [h] at this; cases this
theorem rnsH_len : (rnsH H p z k).length ≤ k := by
  induction k with
  | zero => simp [rnsH]
  | succ k ih => rw [rnsH_succ, List.length_append]; split <;> simp <;> omega
theorem rnsZ_len (hH : 1 ≤ H) : (rnsZ H p z).length ≤ H := by
  unfold rnsZ; split
  · simpa using hH
  · exact rnsH_len (p := p) (z := z) (k := H)
theorem rnsK_len (hH : 1 ≤ H) : (rnsK H P z).length ≤ z * H := by
  induction z with
  | zero => simp [rnsK]
  | succ z ih => rw [rnsK_succ, List.length_append, Nat.succ_mul]; have := rnsZ_len (p := P z) (z := z) hH; omega
theorem round_all (h1 : h < H) (hp : ∀ j, j < H → p ((h + j) % H) = true) : ∀ j, j < H → p j = true := fun j hj => by
  by_cases e : h ≤ j
  · have := hp (j - h) (by omega)
    rwa [show h + (j - h) = j by omega, Nat.mod_eq_of_lt hj] at this
  · have := hp (j + H - h) (by omega)
    rwa [show h + (j + H - h) = j + H by omega, Nat.add_mod_right, Nat.mod_eq_of_lt hj] at this
theorem widF_eq : ∀ (f w0 : Nat), w0 ≤ w → w ≤ w0 + f → (∀ j, w0 ≤ j → j < w → p ((h + j) % H) = true) → (w = w0 + f ∨ p ((h + w) % H) = false) → widF H p h f w0 = w
  | 0, w0, h1, h2, _, _ => by unfold widF; omega
  | f + 1, w0, h1, h2, h3, h4 => by
    unfold widF
    by_cases e : w0 = w
    · subst e
      rw [if_neg (by rw [h4.resolve_left (by omega)]; decide)]
    · rw [if_pos (h3 w0 (Nat.le_refl _) (by omega))]
      exact widF_eq f (w0 + 1) (by omega) (by omega) (fun j hj hj2 => h3 j (by omega) hj2) (h4.imp (fun h => by omega) id)
theorem widQ_eq (h1 : 1 ≤ w) (h2 : w ≤ H) (h3 : ∀ j, j < w → p ((h + j) % H) = true) (h4 : w = H ∨ p ((h + w) % H) = false) : widQ H p h = w :=
  widF_eq (H - 1) 1 h1 (by omega) (fun j _ hj => h3 j hj) (h4.imp (fun h => by omega) id)
end
theorem row_is {Z z h : Nat} {P : Nat → Nat → Bool} {L : List Row} (e : L = rowsP Z P) (hz : z < L.length) {n : Nat} (hh : h < (rowV n L[z]).length) : (rowV n L[z])[h] = if P z h = true then 1 else 0 := by
  rw [rowV_get, row_val e]
theorem isZero_p (x : Int) : Pure Try.prog 106 [i64 x] (.bool (decide (x = 0))) := by
  refine pure_of_body Try.func106 (c := body Try.f106) J (by simp [Try.ntmps106]) fun w0 Φ0 => ?_
  refine Wsr J J ?_
  refine Rv J J J (U_assign J) J J ?_
  refine Rt J ?_
  refine Wsr J J ?_
  refine Rv J J J (U_move J) J J ?_
  refine Rv J J J (U_eql J J) J J ?_
  refine Rv J J J (U_assign J) J J ?_
  refine Rt J ?_
  refine W_ret J ?_
  exact retL (rlT J rl0) J J
theorem runs_p (H Z : Nat) (ls : List (List Bx)) (c : Option Nat) (Rs : List (List Row)) (a : Nat) (ha : a < Rs.length) (P : Nat → Nat → Bool) (hP : Rs[a] = rowsP Z P) (hH : 1 ≤ H ∧ H ≤ 48) (hZ : Z ≤ 24) : Pure Try.prog 93 [.rop [i64 (H : Nat), i64 (Z : Nat), landsA ls c, .ros (Rs.map rowsL) Rs.length none] 0, i64 (a : Nat)] (boxesA (rnsK H P Z) none) := by
  refine pure_of_body Try.func93 (c := body Try.f93) J (by simp [Try.ntmps93]) fun w0 Φ0 => ?_
  refine Wsr J J ?_
  refine Rv J J J (U_assign J) J J ?_
  refine Rt J ?_
  refine Wsr J J ?_
  refine Rv J J J (U_assign J) J J ?_
  refine Rt J ?_
  refine W_seq J ?_
  refine Wsr J J ?_
  refine Rv J J J (U_move J) J J ?_
  refine Rv J J J (U_nilCheckR J) J J ?_
  refine Rv J J J (U_fieldAddrR J) J J ?_
  refine Rv J J J (U_fieldAddrR J) J J ?_
  refine Rv J J J (U_load1 J J J) J J ?_
  refine Rv J J J (U_move J) J J ?_
  refine Rt J ?_
  refine W_block J ?_
  refine LoopTo (T' := [(0, .rop [i64 ((H : Nat) : Int), i64 ((Z : Nat) : Int), .ros (ls.map boxesL) ls.length c, .ros (Rs.map rowsL) Rs.length none] 0), (1, i64 ((a : Nat) : Int)), (5, .out 0 [].length 4), (15, i64 ((Z : Nat) : Int)), (16, i64 ((0 : Nat) : Int))]) (H' := [(0, outB ([].flatMap bxC) 44 [].length)]) (n := 1) J (fun mz_ qz_ => ∃ (z : Nat) (B : List Bx), z ≤ Z ∧ B = rnsK H P z ∧ mz_ = Z - z ∧ qz_ = ⟨[(0, .rop [i64 ((H : Nat) : Int), i64 ((Z : Nat) : Int), .ros (ls.map boxesL) ls.length c, .ros (Rs.map rowsL) Rs.length none] 0), (1, i64 ((a : Nat) : Int)), (5, .out 0 B.length 4), (15, i64 ((Z : Nat) : Int)), (16, i64 ((z : Nat) : Int))], [(0, outB (B.flatMap bxC) 44 B.length)], 1, []⟩) ⟨0, [], (by omega), J, J, J⟩ id ⟨eD J J, eD J J, eW J le_nils_out J, eD J J, eD J J, trivial⟩ ⟨rO0 J, trivial⟩ J J J J (fun _ _ => J) ?_
  rintro _ _ ⟨z, B, hi0_0, hi0_1, rfl, rfl⟩
  have hBl : B.length ≤ z * H := by rw [hi0_1]; exact rnsK_len hH.1
  have hzZ : z * H ≤ Z * H := Nat.mul_le_mul_right H hi0_0
  have hZH : Z * H ≤ 1152 := Nat.mul_le_mul hZ hH.2
  refine Wsr J J ?_
  refine Rv J J J (U_lss J J) J J ?_
  refine Rt J ?_
  refine W_seq J ?_
  refine WcondP J J (fun hc0 => ?_) (fun hc0 => ?_)
  · have hcz : z < Z := by omega
    have hza : Rs[a].length = Z := by rw [hP, rowsP_len]
    have hv48 : (rowV 48 Rs[a][z]).length = 48 := rowV_len
    have hvH : (rowV H Rs[a][z]).length = H := rowV_len
    have hrb : ∀ j (hj : j < (rowV 48 Rs[a][z]).length), (rowV 48 Rs[a][z])[j] = if P z j = true then 1 else 0 := fun j hj => row_is hP (by omega) hj
    have hrh : ∀ j (hj : j < (rowV H Rs[a][z]).length), (rowV H Rs[a][z])[j] = if P z j = true then 1 else 0 := fun j hj => row_is hP (by omega) hj
    refine W_skip J ?_
    refine thenQ_n ?_
    refine W_seq J ?_
    refine W_block J ?_
    refine Wsr J J ?_
    refine Rv J J J (U_move J) J J ?_
    refine Rv J J J (U_assign J) J J ?_
    refine Rt J ?_
    refine Wsr J J ?_
    refine Rv J J J (U_move J) J J ?_
    refine Rv J J J (U_nilCheckR J) J J ?_
    refine Rv J J J (U_fieldAddrR J) J J ?_
    refine Rv J J J (U_load1 J J J) J J ?_
    refine Rv J J J (U_move J) J J ?_
    have hx1 : a < Rs.length := by omega
    refine Rv J J J (U_indexR (j := a) J J J (by omega)) J J ?_
    refine Rv J J J (U_load1 J J (getM hx1)) J J ?_
    refine Rv J J J (U_move J) J J ?_
    have hx2 : z < Rs[a].length := by omega
    refine Rv J J J (U_indexR (j := z) J J J hx2) J J ?_
    refine Rv J J J (U_loadA J J (rowsLe hx2) (rowLd hx2)) J J ?_
    refine Ra J J J (U_alloc) J J J ?_
    refine Rn J J J (U_storeAll J J J (by simp; omega) J (allOne (fun _ => J) _)) J ?_
    refine Rt J ?_
    refine WfrN 1 J (mapD (fun _ => J) _) (T' := [(0, .rop [i64 ((H : Nat) : Int), i64 ((Z : Nat) : Int), .ros (ls.map boxesL) ls.length c, .ros (Rs.map rowsL) Rs.length none] 0), (1, i64 ((a : Nat) : Int)), (5, .out 0 B.length 4), (6, i64 ((z : Nat) : Int)), (7, .rop ((rowV 48 Rs[a][z]).map i64) 0), (15, i64 ((Z : Nat) : Int)), (16, i64 ((z : Nat) : Int))]) (H' := [(0, outB (B.flatMap bxC) 44 B.length)]) ⟨⟨_, J, J⟩, ⟨_, J, J⟩, ⟨_, J, J⟩, ⟨_, J, J⟩, ⟨_, J, J⟩, ⟨_, J, J⟩, ⟨_, J, J⟩, trivial⟩ ⟨⟨J, rFO (flatD (fun _ => J) _) J⟩, trivial⟩ ?_
    refine Wsr J J ?_
    refine Rv J J J (U_move J) J J ?_
    refine Rv J J J (U_nilCheckR J) J J ?_
    refine Rv J J J (U_fieldAddrR J) J J ?_
    refine Rv J J J (U_fieldAddrR J) J J ?_
    refine Rv J J J (U_load1 J J J) J J ?_
    refine Rv J J J (OpU.weakV (le_row (by omega)) (U_sliceAR (h := H) J J J (Nat.zero_le _) (by omega) (by decide) J)) J J ?_
    refine Rv J J J (U_call J J (first_p (f := 106) (ca := []) J (fun x => decide (x = 0)) (rowV H Rs[a][z]) none (by rw [rowV_len]; omega) (fun x _ => isZero_p x)) J) J J ?_
    refine Rv J J J (U_assign J) J J ?_
    refine Rt J ?_
    refine W_seq J ?_
    refine Wsr J J ?_
    refine Rv J J J (U_move J) J J ?_
    refine Rv J J J (U_lss J J) J J ?_
    refine Rt J ?_
    refine WcondP J J (fun hc1 => ?_) (fun hc1 => ?_)
    · have hall : ∀ j, j < H → P z j = true := by intro j hj; by_cases e : P z j = true; exact e; exfalso; have h7 : (((rowV H Rs[a][z])).any fun x => decide (x = 0)) = true := any_true (j := j) (by omega) (by rw [hrh j (by omega), if_neg e]; rfl); rw [← idx_any] at h7; simp at h7; omega
      refine Wsr J J ?_
      refine Rv J J J (U_move J) J J ?_
      refine Rv J J J (U_move J) J J ?_
      refine Rv J J J (U_nilCheckR J) J J ?_
      refine Rv J J J (U_fieldAddrR J) J J ?_
      refine Rv J J J (U_fieldAddrR J) J J ?_
      refine Rv J J J (U_load1 J J J) J J ?_
      refine Rv J J J (U_move J) J J ?_
      refine Rv J J J (U_move J) J J ?_
      refine Rv J J J (U_add J J (w64e (m := ((z + 1 : Nat) : Int)) (by omega) (by omega) (by omega))) J J ?_
      refine Rv J J J (U_build J J) J J ?_
      refine Rv J J J (U_buildSliceF (by rfl) (by decide) J J J) J J ?_
      refine Ra J J J (U_appO (b := 0) (m := 0) (cs' := (B ++ [(⟨0, H, z, ((z + 1 : Nat) : Int)⟩ : Bx)]).flatMap bxC) (n' := (B ++ [(⟨0, H, z, ((z + 1 : Nat) : Int)⟩ : Bx)]).length) J J (by simp) J (flat_len (z := 4) (fun _ => J) _) J J (by omega) (appF (f := bxC) B (⟨0, H, z, ((z + 1 : Nat) : Int)⟩ : Bx)) (len1 _ _)) J J J ?_
      refine Rv J J J (U_assign J) J J ?_
      refine Rt J ?_
      refine W_exit J ?_
      refine thenQ_x ?_
      refine blkQ_x J ?_
      refine thenQ_n ?_
      refine W_reg J ?_
      refine Rv J J J (U_add J J (w64e (m := ((z + 1 : Nat) : Int)) (by omega) (by omega) (by omega))) J J ?_
      refine Rv J J J (U_move J) J J ?_
      refine Rt J ?_
      exact againTo (T' := [(0, .rop [i64 ((H : Nat) : Int), i64 ((Z : Nat) : Int), .ros (ls.map boxesL) ls.length c, .ros (Rs.map rowsL) Rs.length none] 0), (1, i64 ((a : Nat) : Int)), (5, .out 0 (B ++ [(⟨0, H, z, ((z + 1 : Nat) : Int)⟩ : Bx)]).length 4), (15, i64 ((Z : Nat) : Int)), (16, i64 (((z + 1) : Nat) : Int))]) (H' := [(0, outB ((B ++ [(⟨0, H, z, ((z + 1 : Nat) : Int)⟩ : Bx)]).flatMap bxC) 44 (B ++ [(⟨0, H, z, ((z + 1 : Nat) : Int)⟩ : Bx)]).length)]) (n := 1) (Z - (z + 1)) ⟨z + 1, B ++ [(⟨0, H, z, ((z + 1 : Nat) : Int)⟩ : Bx)], (by omega), (by first | (rw [rnsK_succ, rnsZ_all hall, hi0_1]; done) | (rw [rnsK_succ, hnot, hi1_1, show h = H by omega, hi0_1])), J, J⟩ (by omega) (mapN [2]) ⟨eD J J, eD J J, e_ J J, eD J J, eD J J, trivial⟩ ⟨rO (flatD (fun _ => J) _) J J, trivial⟩ J J J J (fun _ h => absurd h (Nat.not_lt_zero _))
    · have hnf : ∃ k, k < H ∧ P z k = false := by have h7 : (((rowV H Rs[a][z])).any fun x => decide (x = 0)) = true := by { rw [← idx_any]; simp; omega }; obtain ⟨x, hx, h8⟩ := List.any_eq_true.1 h7; obtain ⟨k, hk, rfl⟩ := List.getElem_of_mem hx; refine ⟨k, by omega, ?_⟩; rw [hrh k hk] at h8; by_cases e : P z k = true; rw [if_pos e] at h8; simp at h8; simpa using e
      obtain ⟨k0, hk0, hk1⟩ := hnf
      have hnot := rnsZ_not (z := z) hk0 hk1
      refine W_skip J ?_
      refine thenQ_n ?_
      refine Wsr J J ?_
      refine Rv J J J (U_move J) J J ?_
      refine Rv J J J (U_nilCheckR J) J J ?_
      refine Rv J J J (U_fieldAddrR J) J J ?_
      refine Rv J J J (U_fieldAddrR J) J J ?_
      refine Rv J J J (U_load1 J J J) J J ?_
      refine Rv J J J (U_move J) J J ?_
      refine Rt J ?_
      refine W_block J ?_
      refine LoopTo (T' := [(0, .rop [i64 ((H : Nat) : Int), i64 ((Z : Nat) : Int), .ros (ls.map boxesL) ls.length c, .ros (Rs.map rowsL) Rs.length none] 0), (1, i64 ((a : Nat) : Int)), (5, .out 0 B.length 4), (6, i64 ((z : Nat) : Int)), (7, .rop ((rowV 48 Rs[a][z]).map i64) 0), (15, i64 ((Z : Nat) : Int)), (16, i64 ((z : Nat) : Int)), (54, i64 ((H : Nat) : Int)), (55, i64 ((0 : Nat) : Int))]) (H' := [(0, outB (B.flatMap bxC) 44 B.length)]) (n := 1) J (fun mz_ qz_ => ∃ (h : Nat) (B2 : List Bx), h ≤ H ∧ B2 = B ++ rnsH H (P z) z h ∧ mz_ = H - h ∧ qz_ = ⟨[(0, .rop [i64 ((H : Nat) : Int), i64 ((Z : Nat) : Int), .ros (ls.map boxesL) ls.length c, .ros (Rs.map rowsL) Rs.length none] 0), (1, i64 ((a : Nat) : Int)), (5, .out 0 B2.length 4), (6, i64 ((z : Nat) : Int)), (7, .rop ((rowV 48 Rs[a][z]).map i64) 0), (15, i64 ((Z : Nat) : Int)), (16, i64 ((z : Nat) : Int)), (54, i64 ((H : Nat) : Int)), (55, i64 ((h : Nat) : Int))], [(0, outB (B2.flatMap bxC) 44 B2.length)], 1, []⟩) ⟨0, B, (by omega), (by simp [rnsH]), J, J⟩ id ⟨eD J J, eD J J, e_ J J, eD J J, eD J J, eD J J, eD J J, eD J J, eD J J, trivial⟩ ⟨rO (flatD (fun _ => J) _) J J, trivial⟩ J J J J (fun _ _ => J) ?_
      rintro _ _ ⟨h, B2, hi1_0, hi1_1, rfl, rfl⟩
      have hB2 : B2.length ≤ B.length + H := by have := rnsH_len (H := H) (p := P z) (z := z) (k := h); rw [hi1_1, List.length_append]; omega
      refine Wsr J J ?_
      refine Rv J J J (U_lss J J) J J ?_
      refine Rt J ?_
      refine W_seq J ?_
      refine WcondP J J (fun hc2 => ?_) (fun hc2 => ?_)
      · have hch : h < H := by omega
        have hmp : (h + H - 1) % H < H := Nat.mod_lt _ (by omega)
        refine W_skip J ?_
        refine thenQ_n ?_
        refine W_seq J ?_
        refine W_block J ?_
        refine Wsr J J ?_
        refine Rv J J J (U_move J) J J ?_
        refine Rv J J J (U_assign J) J J ?_
        refine Rt J ?_
        refine W_seq J ?_
        refine W_seq J ?_
        refine Wjoin ⟨[(0, .rop [i64 ((H : Nat) : Int), i64 ((Z : Nat) : Int), .ros (ls.map boxesL) ls.length c, .ros (Rs.map rowsL) Rs.length none] 0), (1, i64 ((a : Nat) : Int)), (5, .out 0 B2.length 4), (6, i64 ((z : Nat) : Int)), (7, .rop ((rowV 48 Rs[a][z]).map i64) 0), (9, i64 ((h : Nat) : Int)), (15, i64 ((Z : Nat) : Int)), (16, i64 ((z : Nat) : Int)), (54, i64 ((H : Nat) : Int)), (55, i64 ((h : Nat) : Int)), (80, .bool ((decide (((rowV 48 Rs[a][z])[h]) = 0)) || (decide (0 < ((rowV 48 Rs[a][z])[((h + H - 1) % H)])))))], [(0, outB (B2.flatMap bxC) 44 B2.length)], 1, []⟩ ?_ ?_
        · refine Wdraw J (by kernel_rfl) (by kernel_rfl) ?_
          refine Dv J J J (U_move J) J J ?_
          have hx3 : h < (rowV 48 Rs[a][z]).length := by omega
          refine Dv J J J (U_indexAR (j := h) J J J (by omega)) J J ?_
          refine Dv J J J (U_load1 J J (getM0 hx3)) J J ?_
          refine Dv J J J (U_eql J J) J J ?_
          refine Dv J J J (U_move J) J J ?_
          refine Dsplit (t := 62) J (fun hg4 => ?_) (fun hg4 => ?_)
          · rw [hg4]
            have hg4' : ((rowV 48 Rs[a][z])[h]) = 0 := of_decide_eq_true hg4
            refine Ds J J J J J ?_
            refine Ds J J J J J ?_
            refine Ds J J J J J ?_
            refine Ds J J J J J ?_
            refine Ds J J J J J ?_
            refine Ds J J J J J ?_
            refine Ds J J J J J ?_
            refine Ds J J J J J ?_
            refine Ds J J J J J ?_
            refine Ds J J J J J ?_
            refine Ds J J J J J ?_
            refine Ds J J J J J ?_
            refine Ds J J J J J ?_
            refine Ds J J J J J ?_
            refine Ds J J J J J ?_
            refine Ds J J J J J ?_
            refine Ds J J J J J ?_
            refine Dv J J J (U_pick_t J J) J J ?_
            refine Dr.nil J ?_
            exact joinTo id ⟨eD J J, eD J J, e_ J J, eD J J, eD J J, eD J J, eD J J, eD J J, eD J J, eD J J, eD J J, trivial⟩ ⟨rO (flatD (fun _ => J) _) J J, trivial⟩ J J J J (fun _ _ => J)
          · rw [hg4]
            have hg4' : ¬ (((rowV 48 Rs[a][z])[h]) = 0) := of_decide_eq_false hg4
            refine Dv J J J (U_move J) J J ?_
            refine Dv J J J (U_move J) J J ?_
            refine Dv J J J (U_nilCheckR J) J J ?_
            refine Dv J J J (U_fieldAddrR J) J J ?_
            refine Dv J J J (U_fieldAddrR J) J J ?_
            refine Dv J J J (U_load1 J J J) J J ?_
            refine Dv J J J (U_add J J (w64e (m := ((h + H : Nat) : Int)) (by omega) (by omega) (by omega))) J J ?_
            refine Dv J J J (U_sub J J (w64e (m := ((h + H - 1 : Nat) : Int)) (by omega) (by omega) (by omega))) J J ?_
            refine Dv J J J (U_move J) J J ?_
            refine Dv J J J (U_nilCheckR J) J J ?_
            refine Dv J J J (U_fieldAddrR J) J J ?_
            refine Dv J J J (U_fieldAddrR J) J J ?_
            refine Dv J J J (U_load1 J J J) J J ?_
            refine Dv J J J (U_rem (c := (((h + H - 1) % H : Nat) : Int)) J J (by omega) (tmodN _ _)) J J ?_
            have hx5 : ((h + H - 1) % H) < (rowV 48 Rs[a][z]).length := by omega
            refine Dv J J J (U_indexAR (j := ((h + H - 1) % H)) J J J (by omega)) J J ?_
            refine Dv J J J (U_load1 J J (getM0 hx5)) J J ?_
            refine Dv J J J (U_gtr J J) J J ?_
            refine Dv J J J (U_pick_f J J) J J ?_
            refine Dr.nil J ?_
            exact joinTo id ⟨eD J J, eD J J, e_ J J, eD J J, eD J J, eD J J, eD J J, eD J J, eD J J, eD J J, eD J J, trivial⟩ ⟨rO (flatD (fun _ => J) _) J J, trivial⟩ J J J J (fun _ _ => J)
        refine thenQ_n ?_
        refine Wcond J J (fun hc3 => ?_) (fun hc3 => ?_)
        · have hskip : ¬ (P z h = true ∧ P z ((h + H - 1) % H) = false) := by rintro ⟨e1, e2⟩; rw [hrb h (by omega), hrb ((h + H - 1) % H) (by omega), if_pos e1, e2] at hc3; simp at hc3
          refine W_exit J ?_
          refine thenQ_x ?_
          refine blkQ_x J ?_
          refine thenQ_n ?_
          refine W_reg J ?_
          refine Rv J J J (U_add J J (w64e (m := ((h + 1 : Nat) : Int)) (by omega) (by omega) (by omega))) J J ?_
          refine Rv J J J (U_move J) J J ?_
          refine Rt J ?_
          exact againTo (T' := [(0, .rop [i64 ((H : Nat) : Int), i64 ((Z : Nat) : Int), .ros (ls.map boxesL) ls.length c, .ros (Rs.map rowsL) Rs.length none] 0), (1, i64 ((a : Nat) : Int)), (5, .out 0 B2.length 4), (6, i64 ((z : Nat) : Int)), (7, .rop ((rowV 48 Rs[a][z]).map i64) 0), (15, i64 ((Z : Nat) : Int)), (16, i64 ((z : Nat) : Int)), (54, i64 ((H : Nat) : Int)), (55, i64 (((h + 1) : Nat) : Int))]) (H' := [(0, outB (B2.flatMap bxC) 44 B2.length)]) (n := 1) (H - (h + 1)) ⟨h + 1, B2, (by omega), (by first | (rw [rnsH_f hskip]; exact hi1_1) | (rw [rnsH_t hrun, hwid, ← List.append_assoc, ← hi1_1])), J, J⟩ (by omega) id ⟨eD J J, eD J J, e_ J J, eD J J, eD J J, eD J J, eD J J, eD J J, eD J J, trivial⟩ ⟨rO (flatD (fun _ => J) _) J J, trivial⟩ J J J J (fun _ _ => J)
        · have hc3' := Bool.eq_false_iff.1 hc3
          have hrun : P z h = true ∧ P z ((h + H - 1) % H) = false := by rw [hrb h (by omega), hrb ((h + H - 1) % H) (by omega)] at hc3; by_cases e1 : P z h = true; refine ⟨e1, ?_⟩; by_cases e2 : P z ((h + H - 1) % H) = true; rw [if_pos e1, if_pos e2] at hc3; simp at hc3; simpa using e2; rw [if_neg e1] at hc3; simp at hc3
          refine W_skip J ?_
          refine thenQ_n ?_
          refine Wsr J J ?_
          refine Rv J J J (U_assign J) J J ?_
          refine Rt J ?_
          refine W_seq J ?_
          refine W_block J ?_
          refine LoopTo (T' := [(0, .rop [i64 ((H : Nat) : Int), i64 ((Z : Nat) : Int), .ros (ls.map boxesL) ls.length c, .ros (Rs.map rowsL) Rs.length none] 0), (1, i64 ((a : Nat) : Int)), (5, .out 0 B2.length 4), (6, i64 ((z : Nat) : Int)), (7, .rop ((rowV 48 Rs[a][z]).map i64) 0), (9, i64 ((h : Nat) : Int)), (10, i64 ((1 : Nat) : Int)), (15, i64 ((Z : Nat) : Int)), (16, i64 ((z : Nat) : Int)), (54, i64 ((H : Nat) : Int)), (55, i64 ((h : Nat) : Int))]) (H' := [(0, outB (B2.flatMap bxC) 44 B2.length)]) (n := 1) J (fun mz_ qz_ => ∃ (w : Nat), (1 ≤ w ∧ w ≤ H) ∧ ((∀ j, j < w → P z ((h + j) % H) = true)) ∧ mz_ = H - w ∧ qz_ = ⟨[(0, .rop [i64 ((H : Nat) : Int), i64 ((Z : Nat) : Int), .ros (ls.map boxesL) ls.length c, .ros (Rs.map rowsL) Rs.length none] 0), (1, i64 ((a : Nat) : Int)), (5, .out 0 B2.length 4), (6, i64 ((z : Nat) : Int)), (7, .rop ((rowV 48 Rs[a][z]).map i64) 0), (9, i64 ((h : Nat) : Int)), (10, i64 ((w : Nat) : Int)), (15, i64 ((Z : Nat) : Int)), (16, i64 ((z : Nat) : Int)), (54, i64 ((H : Nat) : Int)), (55, i64 ((h : Nat) : Int))], [(0, outB (B2.flatMap bxC) 44 B2.length)], 1, []⟩) ⟨1, (by omega), (fun j hj => by obtain rfl : j = 0 := (by omega); rw [Nat.add_zero, Nat.mod_eq_of_lt hch]; exact hrun.1), J, J⟩ id ⟨eD J J, eD J J, e_ J J, eD J J, eD J J, eD J J, eD J J, eD J J, eD J J, eD J J, eD J J, trivial⟩ ⟨rO (flatD (fun _ => J) _) J J, trivial⟩ J J J J (fun _ _ => J) ?_
          rintro _ _ ⟨w, hi2_0, hi2_1, rfl, rfl⟩
          have hmw : (h + w) % H < H := Nat.mod_lt _ (by omega)
          refine W_seq J ?_
          refine Wsr J J ?_
          refine Rv J J J (U_move J) J J ?_
          refine Rv J J J (U_move J) J J ?_
          refine Rv J J J (U_add J J (w64e (m := ((h + w : Nat) : Int)) (by omega) (by omega) (by omega))) J J ?_
          refine Rv J J J (U_move J) J J ?_
          refine Rv J J J (U_nilCheckR J) J J ?_
          refine Rv J J J (U_fieldAddrR J) J J ?_
          refine Rv J J J (U_fieldAddrR J) J J ?_
          refine Rv J J J (U_load1 J J J) J J ?_
          refine Rv J J J (U_rem (c := (((h + w) % H : Nat) : Int)) J J (by omega) (tmodN _ _)) J J ?_
          have hx6 : ((h + w) % H) < (rowV 48 Rs[a][z]).length := by omega
          refine Rv J J J (U_indexAR (j := ((h + w) % H)) J J J (by omega)) J J ?_
          refine Rv J J J (U_load1 J J (getM0 hx6)) J J ?_
          refine Rv J J J (U_gtr J J) J J ?_
          refine Rt J ?_
          refine WcondP J J (fun hc4 => ?_) (fun hc4 => ?_)
          · have hpw : P z ((h + w) % H) = true := by rw [hrb ((h + w) % H) (by omega)] at hc4; by_cases e : P z ((h + w) % H) = true; exact e; rw [if_neg e] at hc4; omega
            have hwH : w + 1 ≤ H := by rcases Nat.lt_or_ge w H with h9 | h9; exact h9; exfalso; have := round_all hch (fun j hj => hi2_1 j (by omega)) k0 hk0; rw [hk1] at this; cases this
            refine W_skip J ?_
            refine thenQ_n ?_
            refine W_block J ?_
            refine W_reg J ?_
            refine Rv J J J (U_move J) J J ?_
            refine Rv J J J (U_add J J (w64e (m := ((w + 1 : Nat) : Int)) (by omega) (by omega) (by omega))) J J ?_
            refine Rv J J J (U_assign J) J J ?_
            refine Re J ?_
            refine blkQ_n ?_
            refine thenQ_n ?_
            exact againTo (T' := [(0, .rop [i64 ((H : Nat) : Int), i64 ((Z : Nat) : Int), .ros (ls.map boxesL) ls.length c, .ros (Rs.map rowsL) Rs.length none] 0), (1, i64 ((a : Nat) : Int)), (5, .out 0 B2.length 4), (6, i64 ((z : Nat) : Int)), (7, .rop ((rowV 48 Rs[a][z]).map i64) 0), (9, i64 ((h : Nat) : Int)), (10, i64 (((w + 1) : Nat) : Int)), (15, i64 ((Z : Nat) : Int)), (16, i64 ((z : Nat) : Int)), (54, i64 ((H : Nat) : Int)), (55, i64 ((h : Nat) : Int))]) (H' := [(0, outB (B2.flatMap bxC) 44 B2.length)]) (n := 1) (H - (w + 1)) ⟨w + 1, (by omega), (fun j hj => by rcases Nat.lt_succ_iff_lt_or_eq.1 hj with hj | rfl; exact hi2_1 j hj; exact hpw), J, J⟩ (by omega) id ⟨eD J J, eD J J, e_ J J, eD J J, eD J J, eD J J, eD J J, eD J J, eD J J, eD J J, eD J J, trivial⟩ ⟨rO (flatD (fun _ => J) _) J J, trivial⟩ J J J J (fun _ _ => J)
          · have hpw : P z ((h + w) % H) = false := by rw [hrb ((h + w) % H) (by omega)] at hc4; by_cases e : P z ((h + w) % H) = true; rw [if_pos e] at hc4; omega; simpa using e
            have hwid := widQ_eq hi2_0.1 hi2_0.2 hi2_1 (.inr hpw)
            refine W_exit J ?_
            refine thenQ_x ?_
            refine thenQ_x ?_
            refine blkQ_x J ?_
            refine thenQ_n ?_
            refine W_reg J ?_
            refine Rv J J J (U_move J) J J ?_
            refine Rv J J J (U_move J) J J ?_
            refine Rv J J J (U_move J) J J ?_
            refine Rv J J J (U_move J) J J ?_
            refine Rv J J J (U_move J) J J ?_
            refine Rv J J J (U_add J J (w64e (m := ((z + 1 : Nat) : Int)) (by omega) (by omega) (by omega))) J J ?_
            refine Rv J J J (U_build J J) J J ?_
            refine Rv J J J (U_buildSliceF (by rfl) (by decide) J J J) J J ?_
            refine Ra J J J (U_appO (b := 0) (m := 0) (cs' := (B2 ++ [(⟨h, w, z, ((z + 1 : Nat) : Int)⟩ : Bx)]).flatMap bxC) (n' := (B2 ++ [(⟨h, w, z, ((z + 1 : Nat) : Int)⟩ : Bx)]).length) J J (by simp) J (flat_len (z := 4) (fun _ => J) _) J J (by omega) (appF (f := bxC) B2 (⟨h, w, z, ((z + 1 : Nat) : Int)⟩ : Bx)) (len1 _ _)) J J J ?_
            refine Rv J J J (U_assign J) J J ?_
            refine Re J ?_
            refine blkQ_n ?_
            refine thenQ_n ?_
            refine W_reg J ?_
            refine Rv J J J (U_add J J (w64e (m := ((h + 1 : Nat) : Int)) (by omega) (by omega) (by omega))) J J ?_
            refine Rv J J J (U_move J) J J ?_
            refine Rt J ?_
            exact againTo (T' := [(0, .rop [i64 ((H : Nat) : Int), i64 ((Z : Nat) : Int), .ros (ls.map boxesL) ls.length c, .ros (Rs.map rowsL) Rs.length none] 0), (1, i64 ((a : Nat) : Int)), (5, .out 0 (B2 ++ [(⟨h, w, z, ((z + 1 : Nat) : Int)⟩ : Bx)]).length 4), (6, i64 ((z : Nat) : Int)), (7, .rop ((rowV 48 Rs[a][z]).map i64) 0), (15, i64 ((Z : Nat) : Int)), (16, i64 ((z : Nat) : Int)), (54, i64 ((H : Nat) : Int)), (55, i64 (((h + 1) : Nat) : Int))]) (H' := [(0, outB ((B2 ++ [(⟨h, w, z, ((z + 1 : Nat) : Int)⟩ : Bx)]).flatMap bxC) 44 (B2 ++ [(⟨h, w, z, ((z + 1 : Nat) : Int)⟩ : Bx)]).length)]) (n := 1) (H - (h + 1)) ⟨h + 1, B2 ++ [(⟨h, w, z, ((z + 1 : Nat) : Int)⟩ : Bx)], (by omega), (by first | (rw [rnsH_f hskip]; exact hi1_1) | (rw [rnsH_t hrun, hwid, ← List.append_assoc, ← hi1_1])), J, J⟩ (by omega) (mapN [1]) ⟨eD J J, eD J J, e_ J J, eD J J, eD J J, eD J J, eD J J, eD J J, eD J J, trivial⟩ ⟨rO (flatD (fun _ => J) _) J J, trivial⟩ J J J J (fun _ h => absurd h (Nat.not_lt_zero _))
      · refine W_exit J ?_
        refine thenQ_x ?_
        refine thenQ_x ?_
        refine blkQ_x J ?_
        refine blkQ_n ?_
        refine thenQ_n ?_
        refine W_reg J ?_
        refine Rv J J J (U_add J J (w64e (m := ((z + 1 : Nat) : Int)) (by omega) (by omega) (by omega))) J J ?_
        refine Rv J J J (U_move J) J J ?_
        refine Rt J ?_
        exact againTo (T' := [(0, .rop [i64 ((H : Nat) : Int), i64 ((Z : Nat) : Int), .ros (ls.map boxesL) ls.length c, .ros (Rs.map rowsL) Rs.length none] 0), (1, i64 ((a : Nat) : Int)), (5, .out 0 B2.length 4), (15, i64 ((Z : Nat) : Int)), (16, i64 (((z + 1) : Nat) : Int))]) (H' := [(0, outB (B2.flatMap bxC) 44 B2.length)]) (n := 1) (Z - (z + 1)) ⟨z + 1, B2, (by omega), (by first | (rw [rnsK_succ, rnsZ_all hall, hi0_1]; done) | (rw [rnsK_succ, hnot, hi1_1, show h = H by omega, hi0_1])), J, J⟩ (by omega) id ⟨eD J J, eD J J, e_ J J, eD J J, eD J J, trivial⟩ ⟨rO (flatD (fun _ => J) _) J J, trivial⟩ J J J J (fun _ _ => J)
  · refine W_exit J ?_
    refine thenQ_x ?_
    refine thenQ_x ?_
    refine blkQ_x J ?_
    refine thenQ_n ?_
    refine Wsr J J ?_
    refine Rv J J J (U_move J) J J ?_
    refine Rv J J J (U_assign J) J J ?_
    refine Rt J ?_
    refine WfrO 0 (B.flatMap bxC) J (flatD (fun _ => J) _) (T' := [(4, .ros (B.flatMap bxC) B.length none)]) (H' := []) ⟨fO J, trivial⟩ trivial ?_
    refine W_ret J ?_
    exact retL (rlT J rl0) (by first | rfl | (simp only [packA]; rw [hi0_1, show z = Z by omega]; first | done | rfl)) J
end Go.Proofs.Ythlolelbmhfdbaa
end

section
namespace Go.Proofs.Ythlolelbmhfdbaa
set_option maxRecDepth 20000
open Go.AE
section
variable {H z k h w : Nat} {p : Nat → Bool} {P : Nat → Nat → Bool}
end
def runR (s : Sk) (a : Int) : List Bx := if opS s [a] = 0 then rnsK s.h.toNat (inL' (lndQ s.ls a) s.h.toNat) s.z.toNat else []
theorem runR_g {H Z : Nat} {ls : List (List Bx)} (hc : chkS ⟨H, Z, ls⟩ = 0) {a : Nat} (ha : a < ls.length) : runR ⟨H, Z, ls⟩ (a : Int) = rnsK H (inL' ls[a] H) Z := by
  rw [runR, if_pos (opS_a hc ha), lnd_at ha]; rfl
theorem run_e (s : Sk) (c : Option Nat) (hl : s.ls.length ≤ 1000000) (hbl : ∀ l ∈ s.ls, l.length ≤ 1000000) (a : Int) (hE : opS s [a] ≠ 0) : Pure Try.prog 41 [.agg [i64 s.h, i64 s.z, landsA s.ls c], i64 a] (.tup [boxesA ([] : List Bx) none, i64 (opS s [a])]) := by
  refine pure_of_body Try.func41 (c := body Try.f41) J (by simp [Try.ntmps41]) fun w0 Φ0 => ?_
  refine Wsr J J ?_
  refine Rv J J J (U_boxF J J J) J J ?_
  refine Rv J J J (U_assign J) J J ?_
  refine Rv J J J (U_assign J) J J ?_
  refine Rt J ?_
  refine Wsr J J ?_
  refine Rv J J J (U_load3 J J J J J) J J ?_
  refine Rv J J J (U_move J) J J ?_
  refine Rv J J J (U_buildSliceF (by rfl) (by decide) J J J) J J ?_
  refine Rv J J J (U_call J J (openE_p s c hl hbl [a] (some 1) (by first | assumption | omega | (simp; done) | (simp; omega)) hE) J) J J ?_
  refine Rv J J J (U_move J) J J ?_
  refine Rv J J J (U_extract J J) J J ?_
  refine Rv J J J (U_extract J J) J J ?_
  refine Rv J J J (U_assign J) J J ?_
  refine Rv J J J (U_assign J) J J ?_
  refine Rt J ?_
  refine W_seq J ?_
  refine Wsr J J ?_
  refine Rv J J J (U_move J) J J ?_
  refine Rv J J J (U_neq J J) J J ?_
  refine Rt J ?_
  refine WcondP J J (fun hc0 => ?_) (fun hc0 => absurd (hE) hc0)
  refine Wsr J J ?_
  refine Rv J J J (U_move J) J J ?_
  refine Rv J J J (U_assign J) J J ?_
  refine Rv J J J (U_assign J) J J ?_
  refine Rt J ?_
  refine WweakT (j := 4) J (le_nils (cs := [])) ?_
  refine W_ret J ?_
  refine thenQ_r ?_
  exact retL (rlT J (rlT J rl0)) (by first | rfl | (simp only [packA]; rfl; first | done | rfl)) J
theorem run_g (H Z : Nat) (ls : List (List Bx)) (c : Option Nat) (hc : chkS ⟨H, Z, ls⟩ = 0) (hv : VS ⟨H, Z, ls⟩ H Z) (a : Nat) (ha : a < ls.length) : Pure Try.prog 41 [.agg [i64 (H : Nat), i64 (Z : Nat), landsA ls c], i64 (a : Nat)] (.tup [boxesA (rnsK H (inL' ls[a] H) Z) none, i64 0]) := by
  have hv' := hv
  obtain ⟨_, _, hH, hZ1, hln, hlb, hbx⟩ := hv'
  simp only at hln hlb hbx
  have hZ := hZ1.2
  have hHZ : Z * H ≤ 1152 := Nat.mul_le_mul hZ hH.2
  have hHZc : H * Z = Z * H := Nat.mul_comm _ _
  refine pure_of_body Try.func41 (c := body Try.f41) J (by simp [Try.ntmps41]) fun w0 Φ0 => ?_
  refine Wsr J J ?_
  refine Rv J J J (U_boxF J J J) J J ?_
  refine Rv J J J (U_assign J) J J ?_
  refine Rv J J J (U_assign J) J J ?_
  refine Rt J ?_
  refine Wsr J J ?_
  refine Rv J J J (U_load3 J J J J J) J J ?_
  refine Rv J J J (U_move J) J J ?_
  refine Rv J J J (U_buildSliceF (by rfl) (by decide) J J J) J J ?_
  refine Rv J J J (U_call J J (openG_p H Z ls c hc hv [((a : Nat) : Int)] (some 1) (by first | assumption | omega | (simp; done) | (simp; omega)) (by first | assumption | (rw [inL1]; simp; omega) | (simp [inL]; omega))) J) J J ?_
  refine Rv J J J (U_move J) J J ?_
  refine Rv J J J (U_extract J J) J J ?_
  refine Rv J J J (U_extract J J) J J ?_
  refine Rv J J J (U_assign J) J J ?_
  refine Rv J J J (U_assign J) J J ?_
  refine Rt J ?_
  refine W_seq J ?_
  refine Wsr J J ?_
  refine Rv J J J (U_move J) J J ?_
  refine Rv J J J (U_neq J J) J J ?_
  refine Rt J ?_
  refine WcondP J J (fun h => absurd h (by decide)) (fun _ => ?_)
  refine W_skip J ?_
  refine thenQ_n ?_
  refine Wsr J J ?_
  refine Rv J J J (U_move J) J J ?_
  refine Rv J J J (U_move J) J J ?_
  refine Rv J J J (U_call J J (runs_p H Z ls c (chQ Z H ls) a (by rw [chQ_len]; omega) _ (chQ_get (by rw [chQ_len]; omega)) (by omega) (by omega)) J) J J ?_
  refine Rv J J J (U_assign J) J J ?_
  refine Rv J J J (U_assign J) J J ?_
  refine Rt J ?_
  refine W_ret J ?_
  exact retL (rlT J (rlT J rl0)) J J
theorem runA_p (s : Sk) (c : Option Nat) (hl : s.ls.length ≤ 1000000) (hbl : ∀ l ∈ s.ls, l.length ≤ 1000000) (a : Int) : Pure Try.prog 41 [.agg [i64 s.h, i64 s.z, landsA s.ls c], i64 a] (.tup [boxesA (runR s a) none, i64 (opS s [a])]) := by
  by_cases hE : opS s [a] = 0
  · obtain ⟨H, Z, ls, rfl, hc, hv, hin⟩ := opS_ok hE
    obtain ⟨a, rfl, ha⟩ := in1_ok hin
    rw [runR_g hc ha, hE]
    exact run_g H Z ls c hc hv a ha
  · have e : runR s a = [] := if_neg hE
    rw [e]
    exact run_e s c hl hbl a hE
end Go.Proofs.Ythlolelbmhfdbaa
end

section
namespace Go.Proofs.Ythlolelbmhfdbaa
set_option maxRecDepth 20000
open Go.AE
def frow (Z : Nat) (P : Nat → Nat → Nat → Bool) (i : Nat) : List AV := (rowsP Z (P i)).flatMap (rowC 48)
theorem frow_data {Z : Nat} {P : Nat → Nat → Nat → Bool} : ∀ i, dataL (frow Z P i) := fun _ => flatD rowC_data _
def chP (ls : List (List Bx)) (H i : Nat) : Nat → Nat → Bool := inL' (ls.getD i []) H
theorem newChartM_p (H Z : Nat) (ls : List (List Bx)) (c : Option Nat) (hv : VS ⟨H, Z, ls⟩ H Z) : MutP Try.prog 96 [.agg [i64 (H : Nat), i64 (Z : Nat), landsA ls c]] [] 0 (.ptr 0 0) (([(0, some (.cells [i64 ((H : Nat) : Int), i64 ((Z : Nat) : Int), .ros (ls.map boxesL) ls.length c, .out 1 ls.length 1] 110)), (1, outB (famC 10 Z ls.length) 113 ls.length)] : AH) ++ fam 10 (frow Z (chP ls H)) 112 ls.length) 20 := by
  obtain ⟨_, _, h1, z1, hln, hlb, hbx⟩ := hv
  simp only at hln hlb hbx
  refine mut_of_body Try.func96 (c := body Try.f96) J (by decide) (by simp [Try.ntmps96]) fun w0 Φ0 ρ0 => ?_
  refine Wsr J J ?_
  refine Rv J J J (U_boxF J J J) J J ?_
  refine Rv J J J (U_assign J) J J ?_
  refine Rt J ?_
  refine Wsr J J ?_
  refine Rv J J J (U_load3 J J J J J) J J ?_
  refine Rv J J J (U_build J J) J J ?_
  refine Ra J J J (U_box J J) J J J ?_
  refine Rv J J J (U_assign J) J J ?_
  refine Rt J ?_
  refine W_seq J ?_
  refine Wsr J J ?_
  refine Rv J J J (U_fieldAddrR J) J J ?_
  refine Rv J J J (U_load1 J J J) J J ?_
  refine Rv J J J (U_lenOf J len_ros) J J ?_
  refine Rv J J J (U_move J) J J ?_
  refine Rt J ?_
  refine W_block J ?_
  refine WweakH (b := 0) (cs' := [i64 ((H : Nat) : Int), i64 ((Z : Nat) : Int), .ros (ls.map boxesL) ls.length c, .out 1 0 1]) J (leL_cons (le_refl _) (leL_cons (le_refl _) (leL_cons (le_refl _) (leL_cons le_nils_out (leL_refl _))))) ?_
  refine LoopTo (T' := [(1, .rop [i64 ((H : Nat) : Int), i64 ((Z : Nat) : Int), .ros (ls.map boxesL) ls.length c] 0), (3, .ptr 0 0), (15, .ros (ls.map boxesL) ls.length c), (16, i64 ((ls.length : Nat) : Int)), (17, i64 ((0 : Nat) : Int))]) (H' := (([(0, some (.cells [i64 ((H : Nat) : Int), i64 ((Z : Nat) : Int), .ros (ls.map boxesL) ls.length c, .out 1 0 1] 110)), (1, outB (famC 10 Z 0) 113 0)] : AH) ++ fam 10 (frow Z (chP ls H)) 112 0)) (n := 20) J (fun mz_ qz_ => ∃ (k : Nat), k ≤ ls.length ∧ mz_ = ls.length - k ∧ qz_ = ⟨[(1, .rop [i64 ((H : Nat) : Int), i64 ((Z : Nat) : Int), .ros (ls.map boxesL) ls.length c] 0), (3, .ptr 0 0), (15, .ros (ls.map boxesL) ls.length c), (16, i64 ((ls.length : Nat) : Int)), (17, i64 ((k : Nat) : Int))], (([(0, some (.cells [i64 ((H : Nat) : Int), i64 ((Z : Nat) : Int), .ros (ls.map boxesL) ls.length c, .out 1 k 1] 110)), (1, outB (famC 10 Z k) 113 k)] : AH) ++ fam 10 (frow Z (chP ls H)) 112 k), 20, []⟩) ⟨0, (by omega), J, J⟩ id ⟨eD J J, e_ J J, eD J J, eD J J, eD J J, trivial⟩ ⟨r_ J J J, (rOF J (fun _ _ => J) J (by omega)), (famKeep (fun _ _ => J) (by repeat (first | exact .nil | refine .cons rfl ?_)) (by omega) (by decide) frow_data)⟩ (injFam J J (by omega)) J J J (fun _ _ => J) ?_
  rintro _ _ ⟨k, hi0_0, rfl, rfl⟩
  refine Wsr J J ?_
  refine Rv J J J (U_lss J J) J J ?_
  refine Rt J ?_
  refine W_seq J ?_
  refine WcondP J J (fun hc0 => ?_) (fun hc0 => ?_)
  · have hck : k < ls.length := by omega
    have hbk := hlb _ (List.getElem_mem hck)
    have hgk : ls.getD k [] = ls[k] := by rw [List.getD_eq_getElem?_getD, List.getElem?_eq_getElem hck]; rfl
    refine W_skip J ?_
    refine thenQ_n ?_
    refine W_seq J ?_
    refine W_block J ?_
    refine Wsr J J ?_
    have hx1 : k < ls.length := by omega
    refine Rv J J J (U_indexR (j := k) J J J hx1) J J ?_
    refine Rv J J J (U_load1 J J (getM hx1)) J J ?_
    refine Rv J J J (U_assign J) J J ?_
    refine Rt J ?_
    refine Wsr J J ?_
    refine Rv J J J (U_fieldAddrR J) J J ?_
    refine Rv J J J (U_load1 J J J) J J ?_
    refine Ra J J J (U_mkL (n := Z) (cs' := (rowsP Z fun _ _ => false).flatMap (rowC 48)) J J J (by omega) rowsMk) J J J ?_
    refine Rv J J J (U_assign J) J J ?_
    refine Rt J ?_
    refine W_seq J ?_
    refine Wsr J J ?_
    refine Rv J J J (U_move J) J J ?_
    refine Rv J J J (U_lenOf J len_ros) J J ?_
    refine Rv J J J (U_move J) J J ?_
    refine Rt J ?_
    refine W_block J ?_
    refine LoopTo (T' := [(1, .rop [i64 ((H : Nat) : Int), i64 ((Z : Nat) : Int), .ros (ls.map boxesL) ls.length c] 0), (3, .ptr 0 0), (6, .slice 20 0 Z Z), (15, .ros (ls.map boxesL) ls.length c), (16, i64 ((ls.length : Nat) : Int)), (17, i64 ((k : Nat) : Int)), (24, .ros (ls[k].flatMap bxC) ls[k].length none), (25, i64 ((ls[k].length : Nat) : Int)), (26, i64 ((0 : Nat) : Int))]) (H' := (([(0, some (.cells [i64 ((H : Nat) : Int), i64 ((Z : Nat) : Int), .ros (ls.map boxesL) ls.length c, .out 1 k 1] 110)), (1, outB (famC 10 Z k) 113 k), (20, some (.cells ((rowsP Z (fun _ _ => false)).flatMap (rowC 48)) 112))] : AH) ++ fam 10 (frow Z (chP ls H)) 112 k)) (n := 21) J (fun mz_ qz_ => ∃ (i : Nat) (P : Nat → Nat → Bool), i ≤ ls[k].length ∧ ((∀ z h, z < Z → P z h = inT (ls[k].take i) H z h)) ∧ mz_ = ls[k].length - i ∧ qz_ = ⟨[(1, .rop [i64 ((H : Nat) : Int), i64 ((Z : Nat) : Int), .ros (ls.map boxesL) ls.length c] 0), (3, .ptr 0 0), (6, .slice 20 0 Z Z), (15, .ros (ls.map boxesL) ls.length c), (16, i64 ((ls.length : Nat) : Int)), (17, i64 ((k : Nat) : Int)), (24, .ros (ls[k].flatMap bxC) ls[k].length none), (25, i64 ((ls[k].length : Nat) : Int)), (26, i64 ((i : Nat) : Int))], (([(0, some (.cells [i64 ((H : Nat) : Int), i64 ((Z : Nat) : Int), .ros (ls.map boxesL) ls.length c, .out 1 k 1] 110)), (1, outB (famC 10 Z k) 113 k), (20, some (.cells ((rowsP Z P).flatMap (rowC 48)) 112))] : AH) ++ fam 10 (frow Z (chP ls H)) 112 k), 21, []⟩) ⟨0, fun _ _ => false, (by omega), (fun z h _ => by simp [inT]), J, J⟩ id ⟨eD J J, e_ J J, e_ J J, eD J J, eD J J, eD J J, eD J J, eD J J, eD J J, trivial⟩ ⟨r_ J J J, (rOF J (fun _ _ => J) J (by omega)), rD (flatD rowC_data _) J J, (famKeep (fun _ _ => J) (by repeat (first | exact .nil | refine .cons rfl ?_)) (by omega) (by decide) frow_data)⟩ (injFam J J (by omega)) J J J (fun _ _ => J) ?_
    rintro _ _ ⟨i, P, hi1_0, hi1_1, rfl, rfl⟩
    refine Wsr J J ?_
    refine Rv J J J (U_lss J J) J J ?_
    refine Rt J ?_
    refine W_seq J ?_
    refine WcondP J J (fun hc1 => ?_) (fun hc1 => ?_)
    · have hci : i < ls[k].length := by omega
      have hbb := hbx _ (List.getElem_mem hck) _ (List.getElem_mem hci)
      refine W_skip J ?_
      refine thenQ_n ?_
      refine W_seq J ?_
      refine W_block J ?_
      refine Wsr J J ?_
      have hx2 : i < ls[k].length := by omega
      refine Rv J J J (U_indexR (j := i) J J J hx2) J J ?_
      refine Rv J J J (U_load4 J J (bxG0 hx2) (bxG1 hx2) (bxG2 hx2) (bxG3 hx2)) J J ?_
      refine Ra J J J (U_alloc) J J J ?_
      refine Rn J J J (U_storeAll J J J J J J) J ?_
      refine Rt J ?_
      refine Wsr J J ?_
      refine Rv J J J (U_fieldAddr J) J J ?_
      refine Rv J J J (U_load1 J J J) J J ?_
      refine Rv J J J (U_assign J) J J ?_
      refine Rt J ?_
      refine W_block J ?_
      refine LoopTo (T' := [(1, .rop [i64 ((H : Nat) : Int), i64 ((Z : Nat) : Int), .ros (ls.map boxesL) ls.length c] 0), (3, .ptr 0 0), (6, .slice 20 0 Z Z), (8, .ptr 21 0), (9, i64 (ls[k][i].lo)), (15, .ros (ls.map boxesL) ls.length c), (16, i64 ((ls.length : Nat) : Int)), (17, i64 ((k : Nat) : Int)), (24, .ros (ls[k].flatMap bxC) ls[k].length none), (25, i64 ((ls[k].length : Nat) : Int)), (26, i64 ((i : Nat) : Int))]) (H' := (([(0, some (.cells [i64 ((H : Nat) : Int), i64 ((Z : Nat) : Int), .ros (ls.map boxesL) ls.length c, .out 1 k 1] 110)), (1, outB (famC 10 Z k) 113 k), (20, some (.cells ((rowsP Z P).flatMap (rowC 48)) 112)), (21, some (.cells [i64 ((ls[k][i]).fr), i64 ((ls[k][i]).wd), i64 ((ls[k][i]).lo), i64 ((ls[k][i]).hi)] 44))] : AH) ++ fam 10 (frow Z (chP ls H)) 112 k)) (n := 22) J (fun mz_ qz_ => ∃ (zz : Int) (P2 : Nat → Nat → Bool), ((∀ z h, z < Z → P2 z h = (P z h || (decide ((z : Int) < zz) && decide (h < H) && inN ls[k][i] H z h)))) ∧ (0 ≤ zz ∧ zz ≤ Z ∧ ls[k][i].lo ≤ zz) ∧ mz_ = (Z : Int).toNat - zz.toNat ∧ qz_ = ⟨[(1, .rop [i64 ((H : Nat) : Int), i64 ((Z : Nat) : Int), .ros (ls.map boxesL) ls.length c] 0), (3, .ptr 0 0), (6, .slice 20 0 Z Z), (8, .ptr 21 0), (9, i64 zz), (15, .ros (ls.map boxesL) ls.length c), (16, i64 ((ls.length : Nat) : Int)), (17, i64 ((k : Nat) : Int)), (24, .ros (ls[k].flatMap bxC) ls[k].length none), (25, i64 ((ls[k].length : Nat) : Int)), (26, i64 ((i : Nat) : Int))], (([(0, some (.cells [i64 ((H : Nat) : Int), i64 ((Z : Nat) : Int), .ros (ls.map boxesL) ls.length c, .out 1 k 1] 110)), (1, outB (famC 10 Z k) 113 k), (20, some (.cells ((rowsP Z P2).flatMap (rowC 48)) 112)), (21, some (.cells [i64 ((ls[k][i]).fr), i64 ((ls[k][i]).wd), i64 ((ls[k][i]).lo), i64 ((ls[k][i]).hi)] 44))] : AH) ++ fam 10 (frow Z (chP ls H)) 112 k), 22, []⟩) ⟨ls[k][i].lo, P, (fun z h _ => by rw [box_start]; simp), (by omega), J, J⟩ id ⟨eD J J, e_ J J, e_ J J, e_ J J, eD J J, eD J J, eD J J, eD J J, eD J J, eD J J, eD J J, trivial⟩ ⟨r_ J J J, (rOF J (fun _ _ => J) J (by omega)), rD (flatD rowC_data _) J J, rD J J J, (famKeep (fun _ _ => J) (by repeat (first | exact .nil | refine .cons rfl ?_)) (by omega) (by decide) frow_data)⟩ (injFam J J (by omega)) J J J (fun _ _ => J) ?_
      rintro _ _ ⟨zz, P2, hi2_0, hi2_1, rfl, rfl⟩
      refine W_seq J ?_
      refine Wsr J J ?_
      refine Rv J J J (U_move J) J J ?_
      refine Rv J J J (U_fieldAddr J) J J ?_
      refine Rv J J J (U_load1 J J J) J J ?_
      refine Rv J J J (U_lss J J) J J ?_
      refine Rt J ?_
      refine WcondP J J (fun hc2 => ?_) (fun hc2 => ?_)
      · refine W_skip J ?_
        refine thenQ_n ?_
        refine W_seq J ?_
        refine W_block J ?_
        refine Wsr J J ?_
        refine Rv J J J (U_fieldAddr J) J J ?_
        refine Rv J J J (U_load1 J J J) J J ?_
        refine Rv J J J (U_move J) J J ?_
        refine Rt J ?_
        refine W_block J ?_
        refine LoopTo (T' := [(1, .rop [i64 ((H : Nat) : Int), i64 ((Z : Nat) : Int), .ros (ls.map boxesL) ls.length c] 0), (3, .ptr 0 0), (6, .slice 20 0 Z Z), (8, .ptr 21 0), (9, i64 zz), (15, .ros (ls.map boxesL) ls.length c), (16, i64 ((ls.length : Nat) : Int)), (17, i64 ((k : Nat) : Int)), (24, .ros (ls[k].flatMap bxC) ls[k].length none), (25, i64 ((ls[k].length : Nat) : Int)), (26, i64 ((i : Nat) : Int)), (39, i64 ((ls[k][i]).wd)), (40, i64 ((0 : Nat) : Int))]) (H' := (([(0, some (.cells [i64 ((H : Nat) : Int), i64 ((Z : Nat) : Int), .ros (ls.map boxesL) ls.length c, .out 1 k 1] 110)), (1, outB (famC 10 Z k) 113 k), (20, some (.cells ((rowsP Z P2).flatMap (rowC 48)) 112)), (21, some (.cells [i64 ((ls[k][i]).fr), i64 ((ls[k][i]).wd), i64 ((ls[k][i]).lo), i64 ((ls[k][i]).hi)] 44))] : AH) ++ fam 10 (frow Z (chP ls H)) 112 k)) (n := 22) J (fun mz_ qz_ => ∃ (k3 : Nat) (P3 : Nat → Nat → Bool), k3 ≤ ls[k][i].wd.toNat ∧ ((∀ z h, z < Z → P3 z h = (P2 z h || (decide ((z : Int) = zz) && hitK ls[k][i].fr H k3 h)))) ∧ mz_ = ls[k][i].wd.toNat - k3 ∧ qz_ = ⟨[(1, .rop [i64 ((H : Nat) : Int), i64 ((Z : Nat) : Int), .ros (ls.map boxesL) ls.length c] 0), (3, .ptr 0 0), (6, .slice 20 0 Z Z), (8, .ptr 21 0), (9, i64 zz), (15, .ros (ls.map boxesL) ls.length c), (16, i64 ((ls.length : Nat) : Int)), (17, i64 ((k : Nat) : Int)), (24, .ros (ls[k].flatMap bxC) ls[k].length none), (25, i64 ((ls[k].length : Nat) : Int)), (26, i64 ((i : Nat) : Int)), (39, i64 ((ls[k][i]).wd)), (40, i64 ((k3 : Nat) : Int))], (([(0, some (.cells [i64 ((H : Nat) : Int), i64 ((Z : Nat) : Int), .ros (ls.map boxesL) ls.length c, .out 1 k 1] 110)), (1, outB (famC 10 Z k) 113 k), (20, some (.cells ((rowsP Z P3).flatMap (rowC 48)) 112)), (21, some (.cells [i64 ((ls[k][i]).fr), i64 ((ls[k][i]).wd), i64 ((ls[k][i]).lo), i64 ((ls[k][i]).hi)] 44))] : AH) ++ fam 10 (frow Z (chP ls H)) 112 k), 22, []⟩) ⟨0, P2, (by omega), (fun z h _ => by simp [hitK]), J, J⟩ id ⟨eD J J, e_ J J, e_ J J, e_ J J, eD J J, eD J J, eD J J, eD J J, eD J J, eD J J, eD J J, eD J J, eD J J, trivial⟩ ⟨r_ J J J, (rOF J (fun _ _ => J) J (by omega)), rD (flatD rowC_data _) J J, rD J J J, (famKeep (fun _ _ => J) (by repeat (first | exact .nil | refine .cons rfl ?_)) (by omega) (by decide) frow_data)⟩ (injFam J J (by omega)) J J J (fun _ _ => J) ?_
        rintro _ _ ⟨k3, P3, hi3_0, hi3_1, rfl, rfl⟩
        have hrl := rowsP_len (Z := Z) (P := P3)
        have hml := Int.emod_lt_of_pos (ls[k][i].fr + ((k3 : Nat) : Int)) (show (0 : Int) < ((H : Nat) : Int) by omega)
        have hmn := Int.emod_nonneg (ls[k][i].fr + ((k3 : Nat) : Int)) (show ((H : Nat) : Int) ≠ 0 by omega)
        refine Wsr J J ?_
        refine Rv J J J (U_lss J J) J J ?_
        refine Rt J ?_
        refine W_seq J ?_
        refine WcondP J J (fun hc3 => ?_) (fun hc3 => ?_)
        · refine W_skip J ?_
          refine thenQ_n ?_
          refine W_seq J ?_
          refine W_block J ?_
          refine Wsr J J ?_
          refine Rv J J J (U_move J) J J ?_
          refine Rv J J J (U_assign J) J J ?_
          refine Rt J ?_
          refine Wdraw J (by kernel_rfl) (by kernel_rfl) ?_
          refine Dv J J J (U_move J) J J ?_
          refine Dv J J J (U_move J) J J ?_
          refine Dv J J J (U_fieldAddr J) J J ?_
          refine Dv J J J (U_load1 J J J) J J ?_
          refine Dv J J J (U_move J) J J ?_
          refine Dv J J J (U_add J J (w64 (by omega) (by omega))) J J ?_
          refine Dv J J J (U_fieldAddrR J) J J ?_
          refine Dv J J J (U_load1 J J J) J J ?_
          refine Dv J J J (U_rem (c := ((((ls[k][i]).fr) + ((k3 : Nat) : Int)) % ((H : Nat) : Int))) J J (by omega) (tmodP (by omega))) J J ?_
          have hx3 : (zz).toNat < (rowsP Z P3).length := by omega
          refine Dv J J J (U_indexS (j := (zz).toNat) J J (by omega) (by omega)) J J ?_
          have hx4 : ((((ls[k][i]).fr) + ((k3 : Nat) : Int)) % ((H : Nat) : Int)).toNat < 48 := by omega
          refine Dv J J J (U_indexA (j := ((((ls[k][i]).fr) + ((k3 : Nat) : Int)) % ((H : Nat) : Int)).toNat) J J (by omega) hx4) J J ?_
          refine Dn_ J J J (U_store (n := 1) (cs' := (rowsP Z (setP P3 ((zz).toNat) (((((ls[k][i]).fr) + ((k3 : Nat) : Int)) % ((H : Nat) : Int)).toNat))).flatMap (rowC 48)) J J J J J (rowsLt hx3 hx4) J ((rowS hx3 hx4).trans (congrArg (fun L => L.flatMap (rowC 48)) (rowsP_set hx3)))) J J ?_
          refine Dr.nil J ?_
          refine blkQ_n ?_
          refine thenQ_n ?_
          refine W_reg J ?_
          refine Rv J J J (U_add J J (w64e (m := ((k3 + 1 : Nat) : Int)) (by omega) (by omega) (by omega))) J J ?_
          refine Rv J J J (U_move J) J J ?_
          refine Rt J ?_
          exact againTo (T' := [(1, .rop [i64 ((H : Nat) : Int), i64 ((Z : Nat) : Int), .ros (ls.map boxesL) ls.length c] 0), (3, .ptr 0 0), (6, .slice 20 0 Z Z), (8, .ptr 21 0), (9, i64 zz), (15, .ros (ls.map boxesL) ls.length c), (16, i64 ((ls.length : Nat) : Int)), (17, i64 ((k : Nat) : Int)), (24, .ros (ls[k].flatMap bxC) ls[k].length none), (25, i64 ((ls[k].length : Nat) : Int)), (26, i64 ((i : Nat) : Int)), (39, i64 ((ls[k][i]).wd)), (40, i64 (((k3 + 1) : Nat) : Int))]) (H' := (([(0, some (.cells [i64 ((H : Nat) : Int), i64 ((Z : Nat) : Int), .ros (ls.map boxesL) ls.length c, .out 1 k 1] 110)), (1, outB (famC 10 Z k) 113 k), (20, some (.cells ((rowsP Z (setP P3 ((zz).toNat) (((((ls[k][i]).fr) + ((k3 : Nat) : Int)) % ((H : Nat) : Int)).toNat))).flatMap (rowC 48)) 112)), (21, some (.cells [i64 ((ls[k][i]).fr), i64 ((ls[k][i]).wd), i64 ((ls[k][i]).lo), i64 ((ls[k][i]).hi)] 44))] : AH) ++ fam 10 (frow Z (chP ls H)) 112 k)) (n := 22) (ls[k][i].wd.toNat - (k3 + 1)) ⟨k3 + 1, setP P3 ((zz).toNat) (((((ls[k][i]).fr) + ((k3 : Nat) : Int)) % ((H : Nat) : Int)).toNat), (by omega), (fun z h hz => set_step (by omega) hmn (hi3_1 z h hz)), J, J⟩ (by omega) id ⟨eD J J, e_ J J, e_ J J, e_ J J, eD J J, eD J J, eD J J, eD J J, eD J J, eD J J, eD J J, eD J J, eD J J, trivial⟩ ⟨r_ J J J, (rOF J (fun _ _ => J) J (by omega)), rD (flatD rowC_data _) J J, rD J J J, (famKeep (fun _ _ => J) (by repeat (first | exact .nil | refine .cons rfl ?_)) (by omega) (by decide) frow_data)⟩ (injFam J J (by omega)) J J J (fun _ _ => J)
        · refine W_exit J ?_
          refine thenQ_x ?_
          refine thenQ_x ?_
          refine blkQ_x J ?_
          refine blkQ_n ?_
          refine thenQ_n ?_
          refine W_reg J ?_
          refine Rv J J J (U_move J) J J ?_
          refine Rv J J J (U_add J J (w64 (by omega) (by omega))) J J ?_
          refine Rv J J J (U_assign J) J J ?_
          refine Rt J ?_
          exact againTo (T' := [(1, .rop [i64 ((H : Nat) : Int), i64 ((Z : Nat) : Int), .ros (ls.map boxesL) ls.length c] 0), (3, .ptr 0 0), (6, .slice 20 0 Z Z), (8, .ptr 21 0), (9, i64 (zz + 1)), (15, .ros (ls.map boxesL) ls.length c), (16, i64 ((ls.length : Nat) : Int)), (17, i64 ((k : Nat) : Int)), (24, .ros (ls[k].flatMap bxC) ls[k].length none), (25, i64 ((ls[k].length : Nat) : Int)), (26, i64 ((i : Nat) : Int))]) (H' := (([(0, some (.cells [i64 ((H : Nat) : Int), i64 ((Z : Nat) : Int), .ros (ls.map boxesL) ls.length c, .out 1 k 1] 110)), (1, outB (famC 10 Z k) 113 k), (20, some (.cells ((rowsP Z P3).flatMap (rowC 48)) 112)), (21, some (.cells [i64 ((ls[k][i]).fr), i64 ((ls[k][i]).wd), i64 ((ls[k][i]).lo), i64 ((ls[k][i]).hi)] 44))] : AH) ++ fam 10 (frow Z (chP ls H)) 112 k)) (n := 22) ((Z : Int).toNat - (zz + 1).toNat) ⟨zz + 1, P3, (fun z h hz => by rw [hi3_1 z h hz, hi2_0 z h hz, Bool.or_assoc, show k3 = ls[k][i].wd.toNat by omega, box_step h1.1 hbb.1 hbb.2.1 (by omega) (by omega)]), (by omega), J, J⟩ (by omega) id ⟨eD J J, e_ J J, e_ J J, e_ J J, eD J J, eD J J, eD J J, eD J J, eD J J, eD J J, eD J J, trivial⟩ ⟨r_ J J J, (rOF J (fun _ _ => J) J (by omega)), rD (flatD rowC_data _) J J, rD J J J, (famKeep (fun _ _ => J) (by repeat (first | exact .nil | refine .cons rfl ?_)) (by omega) (by decide) frow_data)⟩ (injFam J J (by omega)) J J J (fun _ _ => J)
      · refine W_exit J ?_
        refine thenQ_x ?_
        refine thenQ_x ?_
        refine blkQ_x J ?_
        refine blkQ_n ?_
        refine thenQ_n ?_
        refine W_reg J ?_
        refine Rv J J J (U_add J J (w64e (m := ((i + 1 : Nat) : Int)) (by omega) (by omega) (by omega))) J J ?_
        refine Rv J J J (U_move J) J J ?_
        refine Rt J ?_
        exact againTo (T' := [(1, .rop [i64 ((H : Nat) : Int), i64 ((Z : Nat) : Int), .ros (ls.map boxesL) ls.length c] 0), (3, .ptr 0 0), (6, .slice 20 0 Z Z), (15, .ros (ls.map boxesL) ls.length c), (16, i64 ((ls.length : Nat) : Int)), (17, i64 ((k : Nat) : Int)), (24, .ros (ls[k].flatMap bxC) ls[k].length none), (25, i64 ((ls[k].length : Nat) : Int)), (26, i64 (((i + 1) : Nat) : Int))]) (H' := (([(0, some (.cells [i64 ((H : Nat) : Int), i64 ((Z : Nat) : Int), .ros (ls.map boxesL) ls.length c, .out 1 k 1] 110)), (1, outB (famC 10 Z k) 113 k), (20, some (.cells ((rowsP Z P2).flatMap (rowC 48)) 112))] : AH) ++ fam 10 (frow Z (chP ls H)) 112 k)) (n := 21) (ls[k].length - (i + 1)) ⟨i + 1, P2, (by omega), (fun z h hz => by rw [hi2_0 z h hz, inT_snoc hci, hi1_1 z h hz, box_end (by omega)]), J, J⟩ (by omega) id ⟨eD J J, e_ J J, e_ J J, eD J J, eD J J, eD J J, eD J J, eD J J, eD J J, trivial⟩ ⟨r_ J J J, (rOF J (fun _ _ => J) J (by omega)), rD (flatD rowC_data _) J J, (famKeep (fun _ _ => J) (by repeat (first | exact .nil | refine .cons rfl ?_)) (by omega) (by decide) frow_data)⟩ (injFam J J (by omega)) J J J (fun _ _ => J)
    · have hrw : rowsP Z P = rowsP Z (chP ls H k) := rowsP_congr fun z h hz => by rw [hi1_1 z h hz, List.take_of_length_le (by omega), chP, hgk]; rfl
      refine W_exit J ?_
      refine thenQ_x ?_
      refine thenQ_x ?_
      refine blkQ_x J ?_
      refine thenQ_n ?_
      refine W_reg J ?_
      refine Rv J J J (U_move J) J J ?_
      refine Rv J J J (U_move J) J J ?_
      refine Rv J J J (U_nilCheck J) J J ?_
      refine Rv J J J (U_fieldAddr J) J J ?_
      refine Rv J J J (U_load1 J J J) J J ?_
      refine Rv J J J (U_move J) J J ?_
      refine Ra J J J (U_buildSlice (by rfl) (by decide) J J) J J J ?_
      refine Ra J J J (U_appO (b := 1) (m := 0) (cs' := famC 10 Z k ++ [.slice 20 0 Z Z]) (n' := k + 1) J J (by simp) J (by rw [famC_len, Nat.mul_one]) J J (by omega) J J) J J J ?_
      refine Rv J J J (U_nilCheck J) J J ?_
      refine Rv J J J (U_fieldAddr J) J J ?_
      refine Rn J J J (U_store J J J J J (Nat.le_of_ble_eq_true J) J J) J ?_
      refine Re J ?_
      refine blkQ_n ?_
      refine thenQ_n ?_
      refine W_reg J ?_
      refine Rv J J J (U_add J J (w64e (m := ((k + 1 : Nat) : Int)) (by omega) (by omega) (by omega))) J J ?_
      refine Rv J J J (U_move J) J J ?_
      refine Rt J ?_
      exact againTo (T' := [(1, .rop [i64 ((H : Nat) : Int), i64 ((Z : Nat) : Int), .ros (ls.map boxesL) ls.length c] 0), (3, .ptr 0 0), (15, .ros (ls.map boxesL) ls.length c), (16, i64 ((ls.length : Nat) : Int)), (17, i64 (((k + 1) : Nat) : Int))]) (H' := (([(0, some (.cells [i64 ((H : Nat) : Int), i64 ((Z : Nat) : Int), .ros (ls.map boxesL) ls.length c, .out 1 (k + 1) 1] 110)), (1, outB (famC 10 Z (k + 1)) 113 (k + 1))] : AH) ++ fam 10 (frow Z (chP ls H)) 112 (k + 1))) (n := 20) (ls.length - (k + 1)) ⟨k + 1, (by omega), J, J⟩ (by omega) (sgG k 20 [0, 22]) ⟨(eD J J), (e_ J J), (eD J J), (eD J J), (eD J J), trivial⟩ ⟨(r_ J J J), (rOS J (fun i hi => sgG_in (by simp) (by omega)) sgG_new J (by omega)), (famTo frow_data (by omega) fun i hi => by rcases Nat.lt_succ_iff_lt_or_eq.1 hi with hi | hi; (rw [sgG_in (by simp) (by omega), Tl.gt (B := 10) (F := fam 10 (frow Z (chP ls H)) 112 k) (by repeat (first | exact .nil | refine .cons rfl ?_)) (by omega), fam_get hi]); (subst hi; rw [sgG_new]; exact congrArg (fun L => some (ABlk.cells (L.flatMap (rowC 48)) 112)) hrw))⟩ (injGrow (by omega) (by omega) (by omega) (by omega)) J J J (fun _ h => absurd h (Nat.not_lt_zero _))
  · obtain rfl : k = ls.length := by omega
    refine W_exit J ?_
    refine thenQ_x ?_
    refine thenQ_x ?_
    refine blkQ_x J ?_
    refine thenQ_n ?_
    refine Wsr J J ?_
    refine Rv J J J (U_move J) J J ?_
    refine Rv J J J (U_assign J) J J ?_
    refine Rt J ?_
    refine W_ret J ?_
    exact retTo (T' := [(2, .ptr 0 0)]) (H1 := (([(0, some (.cells [i64 ((H : Nat) : Int), i64 ((Z : Nat) : Int), .ros (ls.map boxesL) ls.length c, .out 1 ls.length 1] 110)), (1, outB (famC 10 Z ls.length) 113 ls.length)] : AH) ++ fam 10 (frow Z (chP ls H)) 112 ls.length)) id ⟨e_ rfl rfl, trivial⟩ ⟨r_ rfl rfl rfl, (rOF rfl (fun _ _ => rfl) rfl (by omega)), (famKeep (fun _ _ => rfl) (by repeat (first | exact .nil | refine .cons rfl ?_)) (by omega) (by decide) frow_data)⟩ (injFam rfl rfl (by omega)) rfl (fun _ _ => rfl) (rlT rfl rl0) rfl
end Go.Proofs.Ythlolelbmhfdbaa
end

section
namespace Go.Proofs.Ythlolelbmhfdbaa
set_option maxRecDepth 20000
open Go.AE
theorem openM_p (H Z : Nat) (ls : List (List Bx)) (c : Option Nat) (hc : chkS ⟨H, Z, ls⟩ = 0) (hv : VS ⟨H, Z, ls⟩ H Z) (a : Nat) (ha : a < ls.length) : MutP Try.prog 63 [.agg [i64 (H : Nat), i64 (Z : Nat), landsA ls c], intsA [((a : Nat) : Int)] (some 1)] [] 0 (.tup [.ptr 0 0, i64 0]) (([(0, some (.cells [i64 ((H : Nat) : Int), i64 ((Z : Nat) : Int), .ros (ls.map boxesL) ls.length c, .out 1 ls.length 1] 110)), (1, outB (famC 10 Z ls.length) 113 ls.length)] : AH) ++ fam 10 (frow Z (chP ls H)) 112 ls.length) 20 := by
  have hv' := hv
  obtain ⟨_, _, hH, hZ1, hln, hlb, hbx⟩ := hv'
  simp only at hln hlb hbx
  have hZ := hZ1.2
  have hHZ : Z * H ≤ 1152 := Nat.mul_le_mul hZ hH.2
  have hHZc : H * Z = Z * H := Nat.mul_comm _ _
  refine mut_of_body Try.func63 (c := body Try.f63) J (by decide) (by simp [Try.ntmps63]) fun w0 Φ0 ρ0 => ?_
  refine Wsr J J ?_
  refine Rv J J J (U_boxF J J J) J J ?_
  refine Rv J J J (U_assign J) J J ?_
  refine Rv J J J (U_assign J) J J ?_
  refine Rt J ?_
  refine Wsr J J ?_
  refine Rv J J J (U_load3 J J J J J) J J ?_
  refine Rv J J J (U_call J J (chkSG_p H Z ls c hc hv) J) J J ?_
  refine Rv J J J (U_assign J) J J ?_
  refine Rt J ?_
  refine W_seq J ?_
  refine W_block J ?_
  refine Wsr J J ?_
  refine Rv J J J (U_move J) J J ?_
  refine Rv J J J (U_neq J J) J J ?_
  refine Rv J J J (U_assign J) J J ?_
  refine Rt J ?_
  refine WcondP J J (fun h => absurd h (by decide)) (fun _ => ?_)
  refine Wsr J J ?_
  refine Rv J J J (U_fieldAddrR J) J J ?_
  refine Rv J J J (U_load1 J J J) J J ?_
  refine Rv J J J (U_lenOf J len_ros) J J ?_
  refine Rv J J J (U_sub J J (w64 (by omega) (by omega))) J J ?_
  refine Rv J J J (U_move J) J J ?_
  refine Rv J J J (U_call J J (within_p 0 (((ls.length : Nat) : Int) - 1) [((a : Nat) : Int)] (some 1) (by first | assumption | omega | (simp; done) | (simp; omega))) J) J J ?_
  refine Rv J J J (U_not J) J J ?_
  refine Rv J J J (U_assign J) J J ?_
  refine Rt J ?_
  refine Wcond J J (fun hc1 => absurd hc1 (by rw [inL1]; simp; omega)) (fun hc1 => ?_)
  refine W_skip J ?_
  refine blkQ_n ?_
  refine thenQ_n ?_
  refine Wsr J J ?_
  refine Rv J J J (U_load3 J J J J J) J J ?_
  refine Ra J J J (U_callT (mapN []) J J (newChartM_p H Z ls c hv) J J trivial J J) J J J ?_
  refine Rto (T' := [(22, .ptr 0 0)]) (H' := (([(0, some (.cells [i64 ((H : Nat) : Int), i64 ((Z : Nat) : Int), .ros (ls.map boxesL) ls.length c, .out 1 ls.length 1] 110)), (1, outB (famC 10 Z ls.length) 113 ls.length)] : AH) ++ fam 10 (frow Z (chP ls H)) 112 ls.length)) (n := 20) id ⟨e_ J J, trivial⟩ ⟨r_ J J J, (rMF (B := 10) J (fun i _ => by show 0 + (10 + i - 0) = 10 + i; omega) (by omega) J (by omega)), (famCall (B := 10) (by repeat (first | exact .nil | refine .cons rfl ?_)) (fun i _ => by show 0 + (10 + i - 0) = 10 + i; omega) (by omega) (by decide) frow_data)⟩ (injFam J J (by omega)) J J J (fun _ _ => J) ?_
  refine Rv J J J (U_assign J) J J ?_
  refine Rv J J J (U_assign J) J J ?_
  refine Rt J ?_
  refine W_ret J ?_
  exact retTo (T' := [(4, .ptr 0 0), (5, i64 0)]) (H1 := (([(0, some (.cells [i64 ((H : Nat) : Int), i64 ((Z : Nat) : Int), .ros (ls.map boxesL) ls.length c, .out 1 ls.length 1] 110)), (1, outB (famC 10 Z ls.length) 113 ls.length)] : AH) ++ fam 10 (frow Z (chP ls H)) 112 ls.length)) id ⟨e_ rfl rfl, eD rfl rfl, trivial⟩ ⟨r_ rfl rfl rfl, (rOF rfl (fun _ _ => rfl) rfl (by omega)), (famKeep (fun _ _ => rfl) (by repeat (first | exact .nil | refine .cons rfl ?_)) (by omega) (by decide) frow_data)⟩ (injFam rfl rfl (by omega)) rfl (fun _ _ => rfl) (rlT rfl (rlT rfl rl0)) rfl
theorem boxedM_p (H Z : Nat) (ls : List (List Bx)) (c : Option Nat) (hc : chkS ⟨H, Z, ls⟩ = 0) (hv : VS ⟨H, Z, ls⟩ H Z) (a : Nat) (ha : a < ls.length) (b : Bx) (hb : isB b H Z = true) : MutP Try.prog 89 [.agg [i64 (H : Nat), i64 (Z : Nat), landsA ls c], i64 (a : Nat), bxA b] [] 0 (.tup [.ptr 0 0, i64 0]) (([(0, some (.cells [i64 ((H : Nat) : Int), i64 ((Z : Nat) : Int), .ros (ls.map boxesL) ls.length c, .out 1 ls.length 1] 110)), (1, outB (famC 10 Z ls.length) 113 ls.length)] : AH) ++ fam 10 (frow Z (chP ls H)) 112 ls.length) 20 := by
  have hv' := hv
  obtain ⟨_, _, hH, hZ1, hln, hlb, hbx⟩ := hv'
  simp only at hln hlb hbx
  have hZ := hZ1.2
  have hHZ : Z * H ≤ 1152 := Nat.mul_le_mul hZ hH.2
  have hHZc : H * Z = Z * H := Nat.mul_comm _ _
  refine mut_of_body Try.func89 (c := body Try.f89) J (by decide) (by simp [Try.ntmps89]) fun w0 Φ0 ρ0 => ?_
  refine Wsr J J ?_
  refine Rv J J J (U_boxF J J J) J J ?_
  refine Rv J J J (U_boxF J J J) J J ?_
  refine Rv J J J (U_assign J) J J ?_
  refine Rv J J J (U_assign J) J J ?_
  refine Rt J ?_
  refine Wsr J J ?_
  refine Rv J J J (U_load3 J J J J J) J J ?_
  refine Rv J J J (U_move J) J J ?_
  refine Rv J J J (U_buildSliceF (by rfl) (by decide) J J J) J J ?_
  refine Ra J J J (U_callT (mapN []) J J (openM_p H Z ls c hc hv a (by omega)) J J trivial J J) J J J ?_
  refine Rto (T' := [(3, .rop [i64 ((H : Nat) : Int), i64 ((Z : Nat) : Int), .ros (ls.map boxesL) ls.length c] 0), (5, .rop [i64 b.fr, i64 b.wd, i64 b.lo, i64 b.hi] 0), (14, .tup [.ptr 0 0, i64 0])]) (H' := (([(0, some (.cells [i64 ((H : Nat) : Int), i64 ((Z : Nat) : Int), .ros (ls.map boxesL) ls.length c, .out 1 ls.length 1] 110)), (1, outB (famC 10 Z ls.length) 113 ls.length)] : AH) ++ fam 10 (frow Z (chP ls H)) 112 ls.length)) (n := 20) id ⟨eD J J, eD J J, e_ J J, trivial⟩ ⟨r_ J J J, (rMF (B := 10) J (fun i _ => by show 0 + (10 + i - 0) = 10 + i; omega) (by omega) J (by omega)), (famCall (B := 10) (by repeat (first | exact .nil | refine .cons rfl ?_)) (fun i _ => by show 0 + (10 + i - 0) = 10 + i; omega) (by omega) (by decide) frow_data)⟩ (injFam J J (by omega)) J J J (fun _ _ => J) ?_
  refine Rv J J J (U_move J) J J ?_
  refine Rv J J J (U_extract J J) J J ?_
  refine Rv J J J (U_extract J J) J J ?_
  refine Rv J J J (U_assign J) J J ?_
  refine Rv J J J (U_assign J) J J ?_
  refine Rt J ?_
  refine W_seq J ?_
  refine W_block J ?_
  refine Wsr J J ?_
  refine Rv J J J (U_move J) J J ?_
  refine Rv J J J (U_neq J J) J J ?_
  refine Rv J J J (U_assign J) J J ?_
  refine Rt J ?_
  refine WcondP J J (fun h => absurd h (by decide)) (fun _ => ?_)
  refine Wsr J J ?_
  refine Rv J J J (U_load3 J J J J J) J J ?_
  refine Rv J J J (U_load4 J J J J J J) J J ?_
  refine Rv J J J (U_call J J (isBN_p H Z ls c b (by omega) (by omega)) J) J J ?_
  refine Rv J J J (U_not J) J J ?_
  refine Rv J J J (U_assign J) J J ?_
  refine Rt J ?_
  refine Wcond J J (fun hc1 => absurd hc1 (by simpa using hb)) (fun hc1 => ?_)
  refine W_skip J ?_
  refine blkQ_n ?_
  refine thenQ_n ?_
  refine Wsr J J ?_
  refine Rv J J J (U_move J) J J ?_
  refine Rv J J J (U_assign J) J J ?_
  refine Rv J J J (U_assign J) J J ?_
  refine Rt J ?_
  refine W_ret J ?_
  exact retTo (T' := [(6, .ptr 0 0), (7, i64 0)]) (H1 := (([(0, some (.cells [i64 ((H : Nat) : Int), i64 ((Z : Nat) : Int), .ros (ls.map boxesL) ls.length c, .out 1 ls.length 1] 110)), (1, outB (famC 10 Z ls.length) 113 ls.length)] : AH) ++ fam 10 (frow Z (chP ls H)) 112 ls.length)) id ⟨e_ rfl rfl, eD rfl rfl, trivial⟩ ⟨r_ rfl rfl rfl, (rOF rfl (fun _ _ => rfl) rfl (by omega)), (famKeep (fun _ _ => rfl) (by repeat (first | exact .nil | refine .cons rfl ?_)) (by omega) (by decide) frow_data)⟩ (injFam rfl rfl (by omega)) rfl (fun _ _ => rfl) (rlT rfl (rlT rfl rl0)) rfl
theorem inBoxM_p (H Z : Nat) (ls : List (List Bx)) (c : Option Nat) (n : Nat) (b : Bx) (z h : Nat) (hH : 1 ≤ H ∧ H ≤ 48) (hf : 0 ≤ b.fr ∧ b.fr < H) (hh : h < H) : MutP Try.prog 90 [.ptr 0 0, bxA b, .agg [i64 (z : Nat), i64 (h : Nat)]] [(0, some (.cells [i64 ((H : Nat) : Int), i64 ((Z : Nat) : Int), .ros (ls.map boxesL) ls.length c, .out 1 n 1] 110))] 2 (.bool (inN b H z h)) [(0, some (.cells [i64 ((H : Nat) : Int), i64 ((Z : Nat) : Int), .ros (ls.map boxesL) ls.length c, .out 1 n 1] 110))] 2 := by
  refine mut_of_body Try.func90 (c := body Try.f90) J (by decide) (by simp [Try.ntmps90]) fun w0 Φ0 ρ0 => ?_
  refine Wsr J J ?_
  refine Rv J J J (U_boxF J J J) J J ?_
  refine Rv J J J (U_boxF J J J) J J ?_
  refine Rv J J J (U_assign J) J J ?_
  refine Rt J ?_
  refine W_seq J ?_
  refine Wjoin ⟨[(6, .bool ((decide ((((((h : Nat) : Int) - b.fr) + ((H : Nat) : Int)) % ((H : Nat) : Int)) < b.wd)) && ((decide (b.lo ≤ ((z : Nat) : Int))) && (decide (((z : Nat) : Int) < b.hi)))))], [(0, some (.cells [i64 ((H : Nat) : Int), i64 ((Z : Nat) : Int), .ros (ls.map boxesL) ls.length c, .out 1 n 1] 110))], 2, []⟩ ?_ ?_
  · refine Wdraw J (by kernel_rfl) (by kernel_rfl) ?_
    refine Dv J J J (U_fieldAddrR J) J J ?_
    refine Dv J J J (U_load1 J J J) J J ?_
    refine Dv J J J (U_fieldAddrR J) J J ?_
    refine Dv J J J (U_load1 J J J) J J ?_
    refine Dv J J J (U_sub J J (w64 (by omega) (by omega))) J J ?_
    refine Dv J J J (U_move J) J J ?_
    refine Dv J J J (U_nilCheck J) J J ?_
    refine Dv J J J (U_fieldAddr J) J J ?_
    refine Dv J J J (U_fieldAddr J) J J ?_
    refine Dv J J J (U_load1 J J J) J J ?_
    refine Dv J J J (U_add J J (w64 (by omega) (by omega))) J J ?_
    refine Dv J J J (U_move J) J J ?_
    refine Dv J J J (U_nilCheck J) J J ?_
    refine Dv J J J (U_fieldAddr J) J J ?_
    refine Dv J J J (U_fieldAddr J) J J ?_
    refine Dv J J J (U_load1 J J J) J J ?_
    refine Dv J J J (U_rem (c := (((((h : Nat) : Int) - b.fr) + ((H : Nat) : Int)) % ((H : Nat) : Int))) J J (by omega) (tmodP (by omega))) J J ?_
    refine Dv J J J (U_fieldAddrR J) J J ?_
    refine Dv J J J (U_load1 J J J) J J ?_
    refine Dv J J J (U_lss J J) J J ?_
    refine Dv J J J (U_move J) J J ?_
    refine Dsplit (t := 27) J (fun hg1 => ?_) (fun hg1 => ?_)
    · rw [hg1]
      have hg1' : (((((h : Nat) : Int) - b.fr) + ((H : Nat) : Int)) % ((H : Nat) : Int)) < b.wd := of_decide_eq_true hg1
      refine Dv J J J (U_fieldAddrR J) J J ?_
      refine Dv J J J (U_load1 J J J) J J ?_
      refine Dv J J J (U_fieldAddrR J) J J ?_
      refine Dv J J J (U_load1 J J J) J J ?_
      refine Dv J J J (U_geq J J) J J ?_
      refine Dv J J J (U_pick_t J J) J J ?_
      refine Dv J J J (U_move J) J J ?_
      refine Dsplit (t := 34) J (fun hg2 => ?_) (fun hg2 => ?_)
      · rw [hg2]
        have hg2' : b.lo ≤ ((z : Nat) : Int) := of_decide_eq_true hg2
        refine Dv J J J (U_fieldAddrR J) J J ?_
        refine Dv J J J (U_load1 J J J) J J ?_
        refine Dv J J J (U_fieldAddrR J) J J ?_
        refine Dv J J J (U_load1 J J J) J J ?_
        refine Dv J J J (U_lss J J) J J ?_
        refine Dv J J J (U_pick_t J J) J J ?_
        refine Dv J J J (U_assign J) J J ?_
        refine Dr.nil J ?_
        exact joinTo id ⟨eD J J, trivial⟩ ⟨r_ J J J, trivial⟩ J J J J (fun _ _ => J)
      · rw [hg2]
        have hg2' : ¬ (b.lo ≤ ((z : Nat) : Int)) := of_decide_eq_false hg2
        refine Ds J J J J J ?_
        refine Ds J J J J J ?_
        refine Ds J J J J J ?_
        refine Ds J J J J J ?_
        refine Ds J J J J J ?_
        refine Dv J J J (U_pick_f J J) J J ?_
        refine Dv J J J (U_assign J) J J ?_
        refine Dr.nil J ?_
        exact joinTo id ⟨eD J J, trivial⟩ ⟨r_ J J J, trivial⟩ J J J J (fun _ _ => J)
    · rw [hg1]
      have hg1' : ¬ ((((((h : Nat) : Int) - b.fr) + ((H : Nat) : Int)) % ((H : Nat) : Int)) < b.wd) := of_decide_eq_false hg1
      refine Ds J J J J J ?_
      refine Ds J J J J J ?_
      refine Ds J J J J J ?_
      refine Ds J J J J J ?_
      refine Ds J J J J J ?_
      refine Dv J J J (U_pick_f J J) J J ?_
      refine Dv J J J (U_move J) J J ?_
      refine Ds J J J J J ?_
      refine Ds J J J J J ?_
      refine Ds J J J J J ?_
      refine Ds J J J J J ?_
      refine Ds J J J J J ?_
      refine Dv J J J (U_pick_f J J) J J ?_
      refine Dv J J J (U_assign J) J J ?_
      refine Dr.nil J ?_
      exact joinTo id ⟨eD J J, trivial⟩ ⟨r_ J J J, trivial⟩ J J J J (fun _ _ => J)
  refine thenQ_n ?_
  refine W_ret J ?_
  exact retTo (T' := [(6, .bool ((decide ((((((h : Nat) : Int) - b.fr) + ((H : Nat) : Int)) % ((H : Nat) : Int)) < b.wd)) && ((decide (b.lo ≤ ((z : Nat) : Int))) && (decide (((z : Nat) : Int) < b.hi)))))]) id ⟨eD rfl rfl, trivial⟩ ⟨r_ rfl rfl rfl, trivial⟩ rfl rfl (fun _ _ => rfl) (rlT rfl rl0) (by first | rfl | (simp only [packA]; congr 1; rw [Bool.eq_iff_iff]; simp only [inN, Bool.and_eq_true, decide_eq_true_eq]; omega; first | done | rfl))
theorem placesM_p (H Z : Nat) (ls : List (List Bx)) (c : Option Nat) (n : Nat) : MutP Try.prog 75 [.ptr 0 0] [(0, some (.cells [i64 ((H : Nat) : Int), i64 ((Z : Nat) : Int), .ros (ls.map boxesL) ls.length c, .out 1 n 1] 110))] 2 (.fn 101 [] [.ptr 2 0]) [(0, some (.cells [i64 ((H : Nat) : Int), i64 ((Z : Nat) : Int), .ros (ls.map boxesL) ls.length c, .out 1 n 1] 110)), (2, some (.cells [.ptr 0 0] 74))] 3 := by
  refine mut_of_body Try.func75 (c := body Try.f75) J (by decide) (by simp [Try.ntmps75]) fun w0 Φ0 ρ0 => ?_
  refine Wsr J J ?_
  refine Ra J J J (U_box J J) J J J ?_
  refine Rv J J J (U_assign J) J J ?_
  refine Rt J ?_
  refine Wsr J J ?_
  refine Rv J J J (U_makeFunc J J) J J ?_
  refine Rv J J J (U_assign J) J J ?_
  refine Rt J ?_
  refine W_ret J ?_
  exact retTo (T' := [(2, .fn 101 [] [.ptr 2 0])]) id ⟨e_ rfl rfl, trivial⟩ ⟨r_ rfl rfl rfl, r_ rfl rfl rfl, trivial⟩ rfl rfl (fun _ _ => rfl) (rlT rfl rl0) rfl
theorem placesK_it (H Z b2 b0 : Nat) (X Y : AV) (hH : 1 ≤ H ∧ H ≤ 48) (hZ : Z ≤ 24) : IterPK Try.prog 101 [] [.ptr b2 0] ((plcQ Z H).map plcA) (fun Hs => gt Hs b2 = some (.cells [.ptr b0 0] 74) ∧ gt Hs b0 = some (.cells [i64 (H : Nat), i64 (Z : Nat), X, Y] 110)) := by
  intro n m Hs He j Tr ntr ps asg bdy R hK
  have hb2 : b2 < n := (R.bH 0 (Nat.zero_le _) _ _ (hK 0 (Nat.zero_le _)).1).1
  have hb0 : b0 < n := (R.bH 0 (Nat.zero_le _) _ _ (hK 0 (Nat.zero_le _)).2).1
  refine mut_of_body Try.func101 (c := body Try.f101) J (Nat.le_refl _) (by simp [Try.ntmps101]) fun w0 Φ0 ρ0 => ?_
  refine Wsr J J ?_
  refine Rv J J J (U_load1 J (srcLp hb2 (hK 0 (Nat.zero_le _)).1) J) J J ?_
  refine Rv J J J (U_nilCheck J) J J ?_
  refine Rv J J J (U_fieldAddr J) J J ?_
  refine Rv J J J (U_fieldAddr J) J J ?_
  refine Rv J J J (U_load1 J (srcLp hb0 (hK 0 (Nat.zero_le _)).2) J) J J ?_
  refine Rv J J J (U_move J) J J ?_
  refine Rt J ?_
  refine W_block J ?_
  refine LoopI (T' := [(0, .yld (n + 1)), (1, .ptr b2 0), (9, i64 ((Z : Nat) : Int)), (10, i64 ((0 : Nat) : Int))]) (H' := (lpR n Tr ntr ps asg bdy (Hs (H * 0)))) J (fun mz_ qz_ => ∃ (z : Nat), z ≤ Z ∧ H * z ≤ m ∧ mz_ = Z - z ∧ qz_ = ⟨[(0, .yld (n + 1)), (1, .ptr b2 0), (9, i64 ((Z : Nat) : Int)), (10, i64 ((z : Nat) : Int))], (lpR n Tr ntr ps asg bdy (Hs (H * z))), n + 2, []⟩) ⟨0, (by omega), (Nat.zero_le _), J, J⟩ ⟨(e_ J (bltR _)), (e_ J (bltL hb2)), (eD J J), (eD J J), trivial⟩ (R.sees (Nat.zero_le _)) (bleR _) ?_
  rintro _ _ ⟨z, hi0_0, hi0_1, rfl, rfl⟩
  refine Wsr J J ?_
  refine Rv J J J (U_lss J J) J J ?_
  refine Rt J ?_
  refine W_seq J ?_
  refine WcondP J J (fun hc0 => ?_) (fun hc0 => ?_)
  · refine W_skip J ?_
    refine thenQ_n ?_
    refine W_seq J ?_
    refine W_block J ?_
    refine Wsr J J ?_
    refine Rv J J J (U_move J) J J ?_
    refine Rv J J J (U_assign J) J J ?_
    refine Rt J ?_
    refine Wsr J J ?_
    refine Rv J J J (U_load1 J (srcLp hb2 (hK (H * z) hi0_1).1) J) J J ?_
    refine Rv J J J (U_nilCheck J) J J ?_
    refine Rv J J J (U_fieldAddr J) J J ?_
    refine Rv J J J (U_fieldAddr J) J J ?_
    refine Rv J J J (U_load1 J (srcLp hb0 (hK (H * z) hi0_1).2) J) J J ?_
    refine Rv J J J (U_move J) J J ?_
    refine Rt J ?_
    refine W_block J ?_
    refine LoopI (T' := [(0, .yld (n + 1)), (1, .ptr b2 0), (3, i64 ((z : Nat) : Int)), (9, i64 ((Z : Nat) : Int)), (10, i64 ((z : Nat) : Int)), (17, i64 ((H : Nat) : Int)), (18, i64 ((0 : Nat) : Int))]) (H' := (lpR n Tr ntr ps asg bdy (Hs (H * z + 0)))) J (fun mz_ qz_ => ∃ (h : Nat), h ≤ H ∧ H * z + h ≤ m ∧ mz_ = H - h ∧ qz_ = ⟨[(0, .yld (n + 1)), (1, .ptr b2 0), (3, i64 ((z : Nat) : Int)), (9, i64 ((Z : Nat) : Int)), (10, i64 ((z : Nat) : Int)), (17, i64 ((H : Nat) : Int)), (18, i64 ((h : Nat) : Int))], (lpR n Tr ntr ps asg bdy (Hs (H * z + h))), n + 2, []⟩) ⟨0, (by omega), (by omega), J, J⟩ ⟨(e_ J (bltR _)), (e_ J (bltL hb2)), (eD J J), (eD J J), (eD J J), (eD J J), (eD J J), trivial⟩ (R.sees (by omega)) (bleR _) ?_
    rintro _ _ ⟨h, hi1_0, hi1_1, rfl, rfl⟩
    refine Wsr J J ?_
    refine Rv J J J (U_lss J J) J J ?_
    refine Rt J ?_
    refine W_seq J ?_
    refine WcondP J J (fun hc1 => ?_) (fun hc1 => ?_)
    · refine W_skip J ?_
      refine thenQ_n ?_
      refine W_seq J ?_
      refine W_block J ?_
      refine Wsr J J ?_
      refine Rv J J J (U_move J) J J ?_
      refine Rv J J J (U_assign J) J J ?_
      refine Rt J ?_
      refine Wsr J J ?_
      refine Rv J J J (U_move J) J J ?_
      refine Rv J J J (U_move J) J J ?_
      refine Rv J J J (U_move J) J J ?_
      refine Rv J J J (U_build J J) J J ?_
      refine RyieldI R (k := (H * z + h)) [(0, .yld (n + 1)), (1, .ptr b2 0), (3, i64 ((z : Nat) : Int)), (9, i64 ((Z : Nat) : Int)), (10, i64 ((z : Nat) : Int)), (17, i64 ((H : Nat) : Int)), (18, i64 ((h : Nat) : Int)), (25, .bool true)] [(0, .yld (n + 1)), (1, .ptr b2 0), (3, i64 ((z : Nat) : Int)), (9, i64 ((Z : Nat) : Int)), (10, i64 ((z : Nat) : Int)), (17, i64 ((H : Nat) : Int)), (18, i64 ((h : Nat) : Int)), (25, .bool false)] J J J J J J J J J (bleR _) (plc_get' (by omega) (by omega)) hi1_1 ⟨(e_ J (bltR _)), (e_ J (bltL hb2)), (eD J J), (eD J J), (eD J J), (eD J J), (eD J J), e_ J J, trivial⟩ ⟨(e_ J (bltR _)), (e_ J (bltL hb2)), (eD J J), (eD J J), (eD J J), (eD J J), (eD J J), e_ J J, trivial⟩ (fun hm_25 => ?_) (fun hm_25 hl_25 => ?_)
      · refine Rv J J J (U_not J) J J ?_
        refine Rt J ?_
        refine Wcond J J (fun h => nomatch h) (fun _ => ?_)
        refine W_skip J ?_
        refine blkQ_n ?_
        refine thenQ_n ?_
        refine W_reg J ?_
        refine Rv J J J (U_add J J (w64e (m := ((h + 1 : Nat) : Int)) (by omega) (by omega) (by omega))) J J ?_
        refine Rv J J J (U_move J) J J ?_
        refine Rt J ?_
        exact againI (T' := [(0, .yld (n + 1)), (1, .ptr b2 0), (3, i64 ((z : Nat) : Int)), (9, i64 ((Z : Nat) : Int)), (10, i64 ((z : Nat) : Int)), (17, i64 ((H : Nat) : Int)), (18, i64 (((h + 1) : Nat) : Int))]) (H' := (lpR n Tr ntr ps asg bdy (Hs (H * z + (h + 1))))) (H - (h + 1)) ⟨h + 1, (by omega), (by omega), J, J⟩ (by omega) ⟨(e_ J (bltR _)), (e_ J (bltL hb2)), (eD J J), (eD J J), (eD J J), (eD J J), (eD J J), trivial⟩ (R.sees (by omega)) (bleR _)
      · refine Rv J J J (U_not J) J J ?_
        refine Rt J ?_
        refine Wcond J J (fun _ => ?_) (fun h => nomatch h)
        refine W_ret J ?_
        refine blkQ_r ?_
        refine thenQ_r ?_
        refine thenQ_r ?_
        refine blkQ_r ?_
        refine blkQ_r ?_
        refine thenQ_r ?_
        refine thenQ_r ?_
        refine blkQ_r ?_
        exact retI R.seesD (by rw [if_pos hl_25]) (bleR _)
    · obtain rfl : H = h := by omega
      refine W_exit J ?_
      refine thenQ_x ?_
      refine thenQ_x ?_
      refine blkQ_x J ?_
      refine blkQ_n ?_
      refine thenQ_n ?_
      refine W_reg J ?_
      refine Rv J J J (U_add J J (w64e (m := ((z + 1 : Nat) : Int)) (by omega) (by omega) (by omega))) J J ?_
      refine Rv J J J (U_move J) J J ?_
      refine Rt J ?_
      exact againI (T' := [(0, .yld (n + 1)), (1, .ptr b2 0), (9, i64 ((Z : Nat) : Int)), (10, i64 (((z + 1) : Nat) : Int))]) (H' := (lpR n Tr ntr ps asg bdy (Hs (H * (z + 1))))) (Z - (z + 1)) ⟨z + 1, (by omega), (by rw [Nat.mul_add]; omega), J, J⟩ (by omega) ⟨(e_ J (bltR _)), (e_ J (bltL hb2)), (eD J J), (eD J J), trivial⟩ (R.sees (by omega)) (bleR _)
  · refine W_exit J ?_
    refine thenQ_x ?_
    refine thenQ_x ?_
    refine blkQ_x J ?_
    exact retIn (R.sees (by omega)) (by have hle := R.le; rw [List.length_map, plcQ_len] at hle; obtain rfl : z = Z := (by omega); have hcm := Nat.mul_comm z H; have hmm : m = H * z := (by omega); rw [hmm, if_neg (show ¬ H * z < ((plcQ z H).map plcA).length by rw [List.length_map, plcQ_len, Nat.mul_comm]; omega)]) (bleR _)
end Go.Proofs.Ythlolelbmhfdbaa
end
