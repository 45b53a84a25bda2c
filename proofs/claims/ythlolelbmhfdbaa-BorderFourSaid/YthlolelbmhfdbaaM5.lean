import Derived.KernelRfl
import Derived.Test.YthlolelbmhfdbaaM4
set_option linter.all false
section
namespace Go.Proofs.Ythlolelbmhfdbaa
set_option maxRecDepth 20000
open Go.AE
def givP (H : Nat) (ls : List (List Bx)) (b : Bx) (a i : Nat) (j z h : Nat) : Bool := if h < H ∧ z * H + h < i ∧ inN b H z h = true then decide (j = a) else chP ls H j z h
def givC (P : Nat → Nat → Nat → Bool) (k : Nat) (p : Nat × Nat) (j z h : Nat) : Bool := if j < k ∧ z = p.1 ∧ h = p.2 then false else P j z h
def clrP (P : Nat → Nat → Bool) (z j : Nat) : Nat → Nat → Bool := fun x y => P x y && !(x == z && y == j)
theorem rowsP_clr {Z z j : Nat} {P : Nat → Nat → Bool} (h : z < (rowsP Z P).length) : (rowsP Z P).set z (updR (rowsP Z P)[z] j 0) = rowsP Z (clrP P z j) := by
  apply List.ext_getElem (by simp [rowsP])
  intro i h1 h2
  rw [List.getElem_set, rowsP_get h2]
  split
  · rename_i e; subst e
    rw [rowsP_get h]
    funext y
    unfold updR clrP
    by_cases e : y = j
    · subst e; simp
    · simp [e]
  · rename_i e
    rw [rowsP_get (by simpa using h1)]
    funext y
    have e' : (i == z) = false := by simpa using fun h => e h.symm
    unfold clrP
    rw [e']; simp
theorem row_clr {Z z h k : Nat} {P G : Nat → Nat → Nat → Bool} (hz : z < Z) (hh : h < 48) (e : ∀ x y, x < Z → clrP (P k) z h x y = G k x y) : setC (frow Z P k) (0 + z * 48 + h * 1) [i64 0] = frow Z G k := by
  have hk : z < (rowsP Z (P k)).length := by rw [rowsP_len]; exact hz
  unfold frow
  rw [rowS hk hh, rowsP_clr hk, rowsP_congr e]
theorem row_put {Z z h k : Nat} {P G : Nat → Nat → Nat → Bool} (hz : z < Z) (hh : h < 48) (e : ∀ x y, x < Z → setP (P k) z h x y = G k x y) : setC (frow Z P k) (0 + z * 48 + h * 1) [i64 1] = frow Z G k := by
  have hk : z < (rowsP Z (P k)).length := by rw [rowsP_len]; exact hz
  unfold frow
  rw [rowS hk hh, rowsP_set hk, rowsP_congr e]
theorem row_lt {Z z h k : Nat} {P : Nat → Nat → Nat → Bool} (hz : z < Z) (hh : h < 48) : 0 + z * 48 + h * 1 + 1 ≤ (frow Z P k).length := rowsLt (by rw [rowsP_len]; exact hz) hh
theorem frow_eq {Z j : Nat} {P G : Nat → Nat → Nat → Bool} (e : ∀ x y, x < Z → G j x y = P j x y) : frow Z G j = frow Z P j := by
  unfold frow; rw [rowsP_congr e]
section
variable {H Z : Nat} {ls : List (List Bx)} {b : Bx} {a i j : Nat} {P : Nat → Nat → Nat → Bool} {p : Nat × Nat}
theorem givP_0 : frow Z (givP H ls b a 0) j = frow Z (chP ls H) j := frow_eq fun x y _ => if_neg (by omega)
theorem givC_0 : frow Z (givC P 0 p) j = frow Z P j := frow_eq fun x y _ => if_neg (by omega)
theorem givC_ne {k : Nat} (h : j ≠ k) : frow Z (givC P (k + 1) p) j = frow Z (givC P k p) j := frow_eq fun x y _ => by
  unfold givC
  by_cases h1 : j < k ∧ x = p.1 ∧ y = p.2
  · rw [if_pos h1, if_pos ⟨by omega, h1.2⟩]
  · rw [if_neg h1, if_neg fun h2 => h1 ⟨by omega, h2.2⟩]
theorem givC_st {k : Nat} : ∀ x y, x < Z → clrP (givC P k p k) p.1 p.2 x y = givC P (k + 1) p k x y := fun x y _ => by
  unfold clrP givC
  rw [if_neg (by omega)]
  by_cases h : x = p.1 ∧ y = p.2
  · rw [if_pos ⟨by omega, h⟩, h.1, h.2]; simp
  · rw [if_neg fun h2 => h h2.2]
    have : (x == p.1 && y == p.2) = false := by
      rw [Bool.eq_false_iff]; intro h2; simp at h2; exact h h2
    rw [this]; simp
theorem giv_lt {z h : Nat} (hi : i < (plcQ Z H).length) : (h < H ∧ z * H + h < i + 1) ↔ (h < H ∧ z * H + h < i) ∨ (z, h) = (plcQ Z H)[i] := by
  have hp := plcQ_in (List.getElem_mem hi)
  rw [plcQ_at hi] at hp ⊢
  constructor
  · rintro ⟨h1, h2⟩
    by_cases e : z * H + h = i
    · right; subst e; rw [(zh_div h1).1, (zh_div h1).2]
    · left; omega
  · rintro (h1 | h1)
    · omega
    · rw [Prod.mk.injEq] at h1
      have hdm := Nat.div_add_mod i H
      rw [Nat.mul_comm] at hdm
      rw [h1.1, h1.2]; simp only at hp; omega
theorem givP_no (hi : i < (plcQ Z H).length) (hb : ¬ inN b H (plcQ Z H)[i].1 (plcQ Z H)[i].2 = true) : frow Z (givP H ls b a (i + 1)) j = frow Z (givP H ls b a i) j := frow_eq fun x y _ => by
  unfold givP
  by_cases h : y < H ∧ x * H + y < i ∧ inN b H x y = true
  · rw [if_pos h, if_pos ⟨h.1, by omega, h.2.2⟩]
  · rw [if_neg h, if_neg]
    rintro ⟨h1, h2, h3⟩
    rcases (giv_lt hi).1 ⟨h1, h2⟩ with h4 | h4
    · exact h ⟨h4.1, h4.2, h3⟩
    · apply hb
      rw [Prod.ext_iff] at h4
      rw [← h4.1, ← h4.2]; exact h3
theorem givP_yes {n : Nat} (hj : j < n) (hi : i < (plcQ Z H).length) (hb : inN b H (plcQ Z H)[i].1 (plcQ Z H)[i].2 = true) (x y : Nat) : givP H ls b a (i + 1) j x y = if (x, y) = (plcQ Z H)[i] then decide (j = a) else givC (givP H ls b a i) n (plcQ Z H)[i] j x y := by
  unfold givC
  by_cases h : (x, y) = (plcQ Z H)[i]
  · rw [if_pos h]
    have h5 := (giv_lt (z := x) (h := y) hi).2 (.inr h)
    rw [Prod.ext_iff] at h
    simp only at h
    unfold givP
    rw [if_pos ⟨h5.1, h5.2, by rw [h.1, h.2]; exact hb⟩]
  · rw [if_neg h, if_neg fun h2 => h (Prod.ext h2.2.1 h2.2.2)]
    unfold givP
    by_cases h6 : y < H ∧ x * H + y < i ∧ inN b H x y = true
    · rw [if_pos h6, if_pos ⟨h6.1, by omega, h6.2.2⟩]
    · rw [if_neg h6, if_neg]
      rintro ⟨h1, h2, h3⟩
      rcases (giv_lt hi).1 ⟨h1, h2⟩ with h4 | h4
      · exact h6 ⟨h4.1, h4.2, h3⟩
      · exact h h4
theorem givP_ne {n : Nat} (hj : j < n) (hja : j ≠ a) (hi : i < (plcQ Z H).length) (hb : inN b H (plcQ Z H)[i].1 (plcQ Z H)[i].2 = true) : frow Z (givP H ls b a (i + 1)) j = frow Z (givC (givP H ls b a i) n (plcQ Z H)[i]) j := frow_eq fun x y _ => by
  rw [givP_yes hj hi hb]
  split
  · rename_i h
    rw [Prod.ext_iff] at h
    unfold givC; rw [if_pos ⟨hj, h⟩]; simp [hja]
  · rfl
theorem givP_st {n : Nat} (ha : a < n) (hi : i < (plcQ Z H).length) (hb : inN b H (plcQ Z H)[i].1 (plcQ Z H)[i].2 = true) : ∀ x y, x < Z → setP (givC (givP H ls b a i) n (plcQ Z H)[i] a) (plcQ Z H)[i].1 (plcQ Z H)[i].2 x y = givP H ls b a (i + 1) a x y := fun x y _ => by
  rw [givP_yes ha hi hb]
  unfold setP
  by_cases h : (x, y) = (plcQ Z H)[i]
  · rw [if_pos h]
    rw [Prod.ext_iff] at h
    simp only at h
    rw [h.1, h.2]; simp
  · rw [if_neg h]
    have : (x == (plcQ Z H)[i].1 && y == (plcQ Z H)[i].2) = false := by
      rw [Bool.eq_false_iff]; intro h2; simp at h2; exact h (Prod.ext h2.1 h2.2)
    rw [this, Bool.or_false]
end
def givR (Z H : Nat) (ls : List (List Bx)) (b : Bx) (a : Nat) : List (List Row) := (List.range ls.length).map fun j => rowsP Z (givP H ls b a (plcQ Z H).length j)
theorem givR_len {Z H a : Nat} {ls : List (List Bx)} {b : Bx} : (givR Z H ls b a).length = ls.length := by simp [givR]
theorem givR_get {Z H a j : Nat} {ls : List (List Bx)} {b : Bx} (h : j < (givR Z H ls b a).length) : (givR Z H ls b a)[j] = rowsP Z (givP H ls b a (plcQ Z H).length j) := by simp [givR]
theorem givR_cells {Z H a : Nat} {ls : List (List Bx)} {b : Bx} : ((List.range ls.length).map fun i => AV.ros (frow Z (givP H ls b a (plcQ Z H).length) i) Z (some Z)) = (givR Z H ls b a).map rowsL := by
  unfold givR
  rw [List.map_map]
  refine List.map_congr_left fun i _ => ?_
  show AV.ros (frow Z (givP H ls b a (plcQ Z H).length) i) Z (some Z) = AV.ros _ (rowsP Z (givP H ls b a (plcQ Z H).length i)).length (some (rowsP Z (givP H ls b a (plcQ Z H).length i)).length)
  rw [rowsP_len]; rfl
def givK (Z H : Nat) (ls : List (List Bx)) (b : Bx) (a k : Nat) : List (List Bx) := (List.range k).map fun j => rnsK H (givP H ls b a (Z * H) j) Z
def givQ (Z H : Nat) (ls : List (List Bx)) (b : Bx) (a : Nat) : List (List Bx) := givK Z H ls b a ls.length
theorem givK_succ {Z H a k : Nat} {ls : List (List Bx)} {b : Bx} : givK Z H ls b a (k + 1) = givK Z H ls b a k ++ [rnsK H (givP H ls b a (Z * H) k) Z] := by simp [givK, List.range_succ]
theorem givK_len {Z H a k : Nat} {ls : List (List Bx)} {b : Bx} : (givK Z H ls b a k).length = k := by simp [givK]
theorem giv_g (H Z : Nat) (ls : List (List Bx)) (c : Option Nat) (hc : chkS ⟨H, Z, ls⟩ = 0) (hv : VS ⟨H, Z, ls⟩ H Z) (a : Nat) (ha : a < ls.length) (b : Bx) (hb : isB b H Z = true) : Pure Try.prog 43 [.agg [i64 (H : Nat), i64 (Z : Nat), landsA ls c], i64 (a : Nat), bxA b] (.tup [.agg [i64 (H : Nat), i64 (Z : Nat), landsA (givQ Z H ls b a) none], i64 0]) := by
  have hv' := hv
  obtain ⟨_, _, hH, hZ1, hln, hlb, hbx⟩ := hv'
  simp only at hln hlb hbx
  have hZ := hZ1.2
  have hHZ : Z * H ≤ 1152 := Nat.mul_le_mul hZ hH.2
  have hHZc : H * Z = Z * H := Nat.mul_comm _ _
  have hbi := isB_iff.1 hb
  have hRs : ∀ m (hm : m < ls.length), (givR Z H ls b a)[m]'(by rw [givR_len]; exact hm) = rowsP Z (givP H ls b a (plcQ Z H).length m) := fun m hm => givR_get (by rw [givR_len]; exact hm)
  have hRl : (givR Z H ls b a).length = ls.length := givR_len
  refine pure_of_body Try.func43 (c := body Try.f43) J (by simp [Try.ntmps43]) fun w0 Φ0 => ?_
  refine Wsr J J ?_
  refine Rv J J J (U_boxF J J J) J J ?_
  refine Rv J J J (U_boxF J J J) J J ?_
  refine Rv J J J (U_boxF J J J) J J ?_
  refine Ra J J J (U_alloc) J J J ?_
  refine Rv J J J (U_assign J) J J ?_
  refine Rt J ?_
  refine Wsr J J ?_
  refine Rv J J J (U_load3 J J J J J) J J ?_
  refine Rv J J J (U_load1 J J J) J J ?_
  refine Rv J J J (U_load4 J J J J J J) J J ?_
  refine Ra J J J (U_callT (mapN []) J J (boxedM_p H Z ls c hc hv a (by omega) b hb) J J trivial J J) J J J ?_
  refine Rto (T' := [(3, .rop [i64 ((H : Nat) : Int), i64 ((Z : Nat) : Int), .ros (ls.map boxesL) ls.length c] 0), (4, .rop [i64 ((a : Nat) : Int)] 0), (5, .rop [i64 b.fr, i64 b.wd, i64 b.lo, i64 b.hi] 0), (6, .ptr 0 0), (18, .tup [.ptr 1 0, i64 0])]) (H' := (([(0, some (.cells [i64 0, i64 0, .nils] 24)), (1, some (.cells [i64 ((H : Nat) : Int), i64 ((Z : Nat) : Int), .ros (ls.map boxesL) ls.length c, .out 2 ls.length 1] 110)), (2, outB (famC 11 Z ls.length) 113 ls.length)] : AH) ++ fam 11 (frow Z (chP ls H)) 112 ls.length)) (n := 21) id ⟨eD J J, eD J J, eD J J, e_ J J, e_ J J, trivial⟩ ⟨rD J (gtCall (B := 10) (by repeat (first | exact .nil | refine .cons (by decide) ?_)) (fun i _ => by show 1 + (10 + i - 0) = 11 + i; omega) frow_data (by omega) (.inl (by decide)) J) J, r_ J J J, (rMF (B := 10) J (fun i _ => by show 1 + (10 + i - 0) = 11 + i; omega) (by omega) J (by omega)), (famCall (B := 10) (by repeat (first | exact .nil | refine .cons rfl ?_)) (fun i _ => by show 1 + (10 + i - 0) = 11 + i; omega) (by omega) (by decide) frow_data)⟩ (injFam J J (by omega)) J J J (fun _ _ => J) ?_
  refine Rv J J J (U_move J) J J ?_
  refine Rv J J J (U_extract J J) J J ?_
  refine Rv J J J (U_extract J J) J J ?_
  refine Ra J J J (U_alloc) J J J ?_
  refine Rn J J J (U_store1 J J J J) J ?_
  refine Rv J J J (U_assign J) J J ?_
  refine Rt J ?_
  refine W_seq J ?_
  refine Wsr J J ?_
  refine Rv J J J (U_move J) J J ?_
  refine Rv J J J (U_neq J J) J J ?_
  refine Rt J ?_
  refine WcondP J J (fun h => absurd h (by decide)) (fun _ => ?_)
  refine W_skip J ?_
  refine thenQ_n ?_
  refine Wsr J J ?_
  refine Rv J J J (U_fieldAddrR J) J J ?_
  refine Rv J J J (U_load1 J J J) J J ?_
  refine Rv J J J (U_fieldAddrR J) J J ?_
  refine Rv J J J (U_load1 J J J) J J ?_
  refine Rv J J J (U_build J J) J J ?_
  refine Ra J J J (U_alloc) J J J ?_
  refine Rn J J J (U_storeAll J J J J J J) J ?_
  refine Rt J ?_
  refine W_seq J ?_
  refine Wsr J J ?_
  refine Rv J J J (U_load1 J J J) J J ?_
  refine Ra J J J (U_callT (mapN [1, 2]) J J (placesM_p H Z ls c ls.length) J J ⟨r_ J J J, trivial⟩ J J) J J J ?_
  refine Rto (T' := [(3, .rop [i64 ((H : Nat) : Int), i64 ((Z : Nat) : Int), .ros (ls.map boxesL) ls.length c] 0), (4, .rop [i64 ((a : Nat) : Int)] 0), (5, .rop [i64 b.fr, i64 b.wd, i64 b.lo, i64 b.hi] 0), (6, .ptr 0 0), (8, .ptr 21 0), (10, .ptr 22 0), (31, .fn 101 [] [.ptr 23 0])]) (H' := (([(0, some (.cells [i64 0, i64 0, .nils] 24)), (1, some (.cells [i64 ((H : Nat) : Int), i64 ((Z : Nat) : Int), .ros (ls.map boxesL) ls.length c, .out 2 ls.length 1] 110)), (2, outB (famC 11 Z ls.length) 113 ls.length), (21, some (.cells [.ptr 1 0] 74)), (22, some (.cells [i64 ((H : Nat) : Int), i64 ((Z : Nat) : Int), .nils] 24)), (23, some (.cells [.ptr 1 0] 74))] : AH) ++ fam 11 (frow Z (chP ls H)) 112 ls.length)) (n := 24) id ⟨eD J J, eD J J, eD J J, e_ J J, e_ J J, e_ J J, e_ J J, trivial⟩ ⟨rD J J J, r_ J J J, (rOF J (fun _ _ => J) J (by omega)), r_ J J J, rD J J J, r_ J J J, (famKeep (fun _ _ => J) (by repeat (first | exact .nil | refine .cons rfl ?_)) (by omega) (by decide) frow_data)⟩ (injFam J J (by omega)) J J J (fun _ _ => J) ?_
  refine Rt J ?_
  refine W_block J ?_
  refine W_rangeIK (T' := [(3, .rop [i64 ((H : Nat) : Int), i64 ((Z : Nat) : Int), .ros (ls.map boxesL) ls.length c] 0), (4, .rop [i64 ((a : Nat) : Int)] 0), (5, .rop [i64 b.fr, i64 b.wd, i64 b.lo, i64 b.hi] 0), (6, .ptr 0 0), (8, .ptr 21 0), (10, .ptr 22 0), (31, .fn 101 [] [.ptr 23 0])]) (n := 24) J J (placesK_it H Z 23 1 _ _ hH hZ) (fun i => ([(0, some (.cells [i64 0, i64 0, .nils] 24)), (1, some (.cells [i64 ((H : Nat) : Int), i64 ((Z : Nat) : Int), .ros (ls.map boxesL) ls.length c, .out 2 ls.length 1] 110)), (2, outB (famC 11 Z ls.length) 113 ls.length), (21, some (.cells [.ptr 1 0] 74)), (22, some (.cells [i64 ((H : Nat) : Int), i64 ((Z : Nat) : Int), .nils] 24)), (23, some (.cells [.ptr 1 0] 74))] : AH) ++ fam 11 (frow Z (givP H ls b a i)) 112 ls.length) ⟨eD J J, eD J J, eD J J, e_ J J, e_ J J, e_ J J, e_ J J, trivial⟩ ⟨rD J J J, r_ J J J, (rOF J (fun _ _ => J) J (by omega)), r_ J J J, rD J J J, r_ J J J, (famKeepEq (by repeat (first | exact .nil | refine .cons rfl ?_)) (by omega) (by decide) frow_data (fun j hj => givP_0) frow_data)⟩ J J J J J (fun i => ⟨J, J⟩) (fun i => ⟨rD J J J, r_ J J J, (rOF J (fun _ _ => J) J (by omega)), r_ J J J, rD J J J, r_ J J J, (famKeep (fun _ _ => J) (by repeat (first | exact .nil | refine .cons rfl ?_)) (by omega) (by decide) frow_data)⟩) ?_ ?_
  · intro i x_ hx_ C_ hC_ N_ hN_
    obtain ⟨hi_, rfl⟩ := mapAt hx_
    have hpz := plcQ_in (List.getElem_mem hi_)
    obtain ⟨_, w0_, Wr_, Φ0_, ro_, nt_, k0_, ρ0_⟩ := C_
    have hC2_ : _ = Try.prog := hC_
    subst hC2_
    intro ρ_ Φ_ w_ lc_
    refine W_reg J ?_
    refine Ra J J J (U_alloc) J J J ?_
    refine Rn J J J (U_storeAll J J J J J J) J ?_
    refine Re J ?_
    refine ⟨rfl, ?_⟩
    refine W_block J ?_
    refine W_seq J ?_
    refine Wsr J J ?_
    refine Rv J J J (U_load1 J J J) J J ?_
    refine Rv J J J (U_load4 J J J J J J) J J ?_
    refine Rv J J J (U_load2 J J J J) J J ?_
    refine Ra J J J (U_callT (mapN [1, 2]) J J (inBoxM_p H Z ls c ls.length b (((plcQ Z H)[i]).1) (((plcQ Z H)[i]).2) (by omega) (by omega) (by omega)) J J ⟨r_ J J J, trivial⟩ J J) J J J ?_
    refine Rto (T' := [(3, .rop [i64 ((H : Nat) : Int), i64 ((Z : Nat) : Int), .ros (ls.map boxesL) ls.length c] 0), (4, .rop [i64 ((a : Nat) : Int)] 0), (6, .ptr 0 0), (8, .ptr 21 0), (10, .ptr 22 0), (11, .ptr 26 0), (36, .bool (inN b H (((plcQ Z H)[i]).1) (((plcQ Z H)[i]).2)))]) (H' := (([(0, some (.cells [i64 0, i64 0, .nils] 24)), (1, some (.cells [i64 ((H : Nat) : Int), i64 ((Z : Nat) : Int), .ros (ls.map boxesL) ls.length c, .out 2 ls.length 1] 110)), (2, outB (famC 11 Z ls.length) 113 ls.length), (21, some (.cells [.ptr 1 0] 74)), (22, some (.cells [i64 ((H : Nat) : Int), i64 ((Z : Nat) : Int), .nils] 24)), (23, some (.cells [.ptr 1 0] 74)), (25, some (.loop .busy none [(3, .rop [i64 ((H : Nat) : Int), i64 ((Z : Nat) : Int), .ros (ls.map boxesL) ls.length c] 0), (4, .rop [i64 ((a : Nat) : Int)] 0), (5, .rop [i64 b.fr, i64 b.wd, i64 b.lo, i64 b.hi] 0), (6, .ptr 0 0), (8, .ptr 21 0), (10, .ptr 22 0), (31, .fn 101 [] [.ptr 23 0])] Try.f43.ntmps (body Try.f43).r.r.r.r.l.r.l.ps (body Try.f43).r.r.r.r.l.r.l.l (body Try.f43).r.r.r.r.l.r.l.r 24)), (26, some (.cells [i64 ((((plcQ Z H)[i]).1 : Nat) : Int), i64 ((((plcQ Z H)[i]).2 : Nat) : Int)] 80))] : AH) ++ fam 11 (frow Z (givP H ls b a i)) 112 ls.length)) (n := 27) id ⟨eD J J, eD J J, e_ J J, e_ J J, e_ J J, e_ J J, eD J J, trivial⟩ ⟨rD J J J, r_ J J J, (rOF J (fun _ _ => J) J (by omega)), r_ J J J, rD J J J, r_ J J J, r_ J J J, rD J J J, (famKeep (fun _ _ => J) (by repeat (first | exact .nil | refine .cons rfl ?_)) (by omega) (by decide) frow_data)⟩ (injFam J J (by omega)) J J J (fun _ _ => J) ?_
    refine Rv J J J (U_not J) J J ?_
    refine Rt J ?_
    refine Wcond J J (fun hc1 => ?_) (fun hc1 => ?_)
    · have hin : ¬ inN b H (plcQ Z H)[i].1 (plcQ Z H)[i].2 = true := by simpa using hc1
      refine W_exit J ?_
      refine thenQ_x ?_
      refine blkQ_x J ?_
      refine ⟨rfl, ?_⟩
      exact hN_ _ _ ⟨rD rfl rfl rfl, r_ rfl rfl rfl, (rOF rfl (fun _ _ => rfl) rfl (by omega)), r_ rfl rfl rfl, rD rfl rfl rfl, r_ rfl rfl rfl, (famKeepEq (by repeat (first | exact .nil | refine .cons rfl ?_)) (by omega) (by decide) frow_data (fun j hj => givP_no hi_ hin) frow_data)⟩
    · have hc1' := Bool.eq_false_iff.1 hc1
      have hin : inN b H (plcQ Z H)[i].1 (plcQ Z H)[i].2 = true := by simpa using hc1
      refine W_skip J ?_
      refine thenQ_n ?_
      refine W_seq J ?_
      refine Wsr J J ?_
      refine Rv J J J (U_load1 J J J) J J ?_
      refine Rv J J J (U_nilCheck J) J J ?_
      refine Rv J J J (U_fieldAddr J) J J ?_
      refine Rv J J J (U_load1 J J J) J J ?_
      refine Rv J J J (U_lenOf J len_out) J J ?_
      refine Rv J J J (U_move J) J J ?_
      refine Rt J ?_
      refine W_block J ?_
      refine LoopTo (T' := [(3, .rop [i64 ((H : Nat) : Int), i64 ((Z : Nat) : Int), .ros (ls.map boxesL) ls.length c] 0), (4, .rop [i64 ((a : Nat) : Int)] 0), (6, .ptr 0 0), (8, .ptr 21 0), (10, .ptr 22 0), (11, .ptr 26 0), (42, i64 ((ls.length : Nat) : Int)), (43, i64 ((0 : Nat) : Int))]) (H' := (([(0, some (.cells [i64 0, i64 0, .nils] 24)), (1, some (.cells [i64 ((H : Nat) : Int), i64 ((Z : Nat) : Int), .ros (ls.map boxesL) ls.length c, .out 2 ls.length 1] 110)), (2, outB (famC 11 Z ls.length) 113 ls.length), (21, some (.cells [.ptr 1 0] 74)), (22, some (.cells [i64 ((H : Nat) : Int), i64 ((Z : Nat) : Int), .nils] 24)), (23, some (.cells [.ptr 1 0] 74)), (25, some (.loop .busy none [(3, .rop [i64 ((H : Nat) : Int), i64 ((Z : Nat) : Int), .ros (ls.map boxesL) ls.length c] 0), (4, .rop [i64 ((a : Nat) : Int)] 0), (5, .rop [i64 b.fr, i64 b.wd, i64 b.lo, i64 b.hi] 0), (6, .ptr 0 0), (8, .ptr 21 0), (10, .ptr 22 0), (31, .fn 101 [] [.ptr 23 0])] Try.f43.ntmps (body Try.f43).r.r.r.r.l.r.l.ps (body Try.f43).r.r.r.r.l.r.l.l (body Try.f43).r.r.r.r.l.r.l.r 24)), (26, some (.cells [i64 ((((plcQ Z H)[i]).1 : Nat) : Int), i64 ((((plcQ Z H)[i]).2 : Nat) : Int)] 80))] : AH) ++ fam 11 (frow Z (givC (givP H ls b a i) 0 (plcQ Z H)[i])) 112 ls.length)) (n := 27) J (fun mz_ qz_ => ∃ (k : Nat), k ≤ ls.length ∧ mz_ = ls.length - k ∧ qz_ = ⟨[(3, .rop [i64 ((H : Nat) : Int), i64 ((Z : Nat) : Int), .ros (ls.map boxesL) ls.length c] 0), (4, .rop [i64 ((a : Nat) : Int)] 0), (6, .ptr 0 0), (8, .ptr 21 0), (10, .ptr 22 0), (11, .ptr 26 0), (42, i64 ((ls.length : Nat) : Int)), (43, i64 ((k : Nat) : Int))], (([(0, some (.cells [i64 0, i64 0, .nils] 24)), (1, some (.cells [i64 ((H : Nat) : Int), i64 ((Z : Nat) : Int), .ros (ls.map boxesL) ls.length c, .out 2 ls.length 1] 110)), (2, outB (famC 11 Z ls.length) 113 ls.length), (21, some (.cells [.ptr 1 0] 74)), (22, some (.cells [i64 ((H : Nat) : Int), i64 ((Z : Nat) : Int), .nils] 24)), (23, some (.cells [.ptr 1 0] 74)), (25, some (.loop .busy none [(3, .rop [i64 ((H : Nat) : Int), i64 ((Z : Nat) : Int), .ros (ls.map boxesL) ls.length c] 0), (4, .rop [i64 ((a : Nat) : Int)] 0), (5, .rop [i64 b.fr, i64 b.wd, i64 b.lo, i64 b.hi] 0), (6, .ptr 0 0), (8, .ptr 21 0), (10, .ptr 22 0), (31, .fn 101 [] [.ptr 23 0])] Try.f43.ntmps (body Try.f43).r.r.r.r.l.r.l.ps (body Try.f43).r.r.r.r.l.r.l.l (body Try.f43).r.r.r.r.l.r.l.r 24)), (26, some (.cells [i64 ((((plcQ Z H)[i]).1 : Nat) : Int), i64 ((((plcQ Z H)[i]).2 : Nat) : Int)] 80))] : AH) ++ fam 11 (frow Z (givC (givP H ls b a i) k (plcQ Z H)[i])) 112 ls.length), 27, []⟩) ⟨0, (by omega), J, J⟩ id ⟨eD J J, eD J J, e_ J J, e_ J J, e_ J J, e_ J J, eD J J, eD J J, trivial⟩ ⟨rD J J J, r_ J J J, (rOF J (fun _ _ => J) J (by omega)), r_ J J J, rD J J J, r_ J J J, r_ J J J, rD J J J, (famKeepEq (by repeat (first | exact .nil | refine .cons rfl ?_)) (by omega) (by decide) frow_data (fun j hj => givC_0) frow_data)⟩ (injFam J J (by omega)) J J J (fun _ _ => J) ?_
      rintro _ _ ⟨k, hi0_0, rfl, rfl⟩
      refine Wsr J J ?_
      refine Rv J J J (U_lss J J) J J ?_
      refine Rt J ?_
      refine W_seq J ?_
      refine WcondP J J (fun hc2 => ?_) (fun hc2 => ?_)
      · refine W_skip J ?_
        refine thenQ_n ?_
        refine W_seq J ?_
        refine W_block J ?_
        refine Wsr J J ?_
        refine Rv J J J (U_move J) J J ?_
        refine Rv J J J (U_assign J) J J ?_
        refine Rt J ?_
        refine Wdraw J (by kernel_rfl) (by kernel_rfl) ?_
        refine Dv J J J (U_load1 J J J) J J ?_
        refine Dv J J J (U_nilCheck J) J J ?_
        refine Dv J J J (U_fieldAddr J) J J ?_
        refine Dv J J J (U_load1 J J J) J J ?_
        refine Dv J J J (U_move J) J J ?_
        refine Dv J J J (U_indexO (j := k) J J J (by omega)) J J ?_
        refine Dv J J J (U_load1 J (srcO J (by omega)) (famC_get (show k < ls.length by omega))) J J ?_
        refine Dv J J J (U_fieldAddr J) J J ?_
        refine Dv J J J (U_load1 J J J) J J ?_
        refine Dv J J J (U_fieldAddr J) J J ?_
        refine Dv J J J (U_load1 J J J) J J ?_
        refine Dv J J J (U_indexS (j := (plcQ Z H)[i].1) J J J (by omega)) J J ?_
        refine Dv J J J (U_indexA (j := (plcQ Z H)[i].2) J J J (show (plcQ Z H)[i].2 < 48 by omega)) J J ?_
        refine Dn_ J J J (U_store (n := 1) (cs' := frow Z (givC (givP H ls b a i) (k + 1) (plcQ Z H)[i]) k) J J ((Tl.gt (B := 11) (F := fam 11 (frow Z (givC (givP H ls b a i) k (plcQ Z H)[i])) 112 ls.length) (i := k) (by repeat (first | exact .nil | refine .cons rfl ?_)) (by omega)).trans (fam_get (show k < ls.length by omega))) J J (row_lt (by omega) (by omega)) J (row_clr (by omega) (by omega) givC_st)) J (upsFam J ((Tl.gt (B := 11) (F := fam 11 (frow Z (givC (givP H ls b a i) k (plcQ Z H)[i])) 112 ls.length) (i := k) (by repeat (first | exact .nil | refine .cons rfl ?_)) (by omega)).trans (fam_get (show k < ls.length by omega)))) ?_
        refine Dr.nil J ?_
        refine blkQ_n ?_
        refine thenQ_n ?_
        refine W_reg J ?_
        refine Rv J J J (U_add J J (w64e (m := ((k + 1 : Nat) : Int)) (by omega) (by omega) (by omega))) J J ?_
        refine Rv J J J (U_move J) J J ?_
        refine Rt J ?_
        exact againTo (T' := [(3, .rop [i64 ((H : Nat) : Int), i64 ((Z : Nat) : Int), .ros (ls.map boxesL) ls.length c] 0), (4, .rop [i64 ((a : Nat) : Int)] 0), (6, .ptr 0 0), (8, .ptr 21 0), (10, .ptr 22 0), (11, .ptr 26 0), (42, i64 ((ls.length : Nat) : Int)), (43, i64 (((k + 1) : Nat) : Int))]) (H' := (([(0, some (.cells [i64 0, i64 0, .nils] 24)), (1, some (.cells [i64 ((H : Nat) : Int), i64 ((Z : Nat) : Int), .ros (ls.map boxesL) ls.length c, .out 2 ls.length 1] 110)), (2, outB (famC 11 Z ls.length) 113 ls.length), (21, some (.cells [.ptr 1 0] 74)), (22, some (.cells [i64 ((H : Nat) : Int), i64 ((Z : Nat) : Int), .nils] 24)), (23, some (.cells [.ptr 1 0] 74)), (25, some (.loop .busy none [(3, .rop [i64 ((H : Nat) : Int), i64 ((Z : Nat) : Int), .ros (ls.map boxesL) ls.length c] 0), (4, .rop [i64 ((a : Nat) : Int)] 0), (5, .rop [i64 b.fr, i64 b.wd, i64 b.lo, i64 b.hi] 0), (6, .ptr 0 0), (8, .ptr 21 0), (10, .ptr 22 0), (31, .fn 101 [] [.ptr 23 0])] Try.f43.ntmps (body Try.f43).r.r.r.r.l.r.l.ps (body Try.f43).r.r.r.r.l.r.l.l (body Try.f43).r.r.r.r.l.r.l.r 24)), (26, some (.cells [i64 ((((plcQ Z H)[i]).1 : Nat) : Int), i64 ((((plcQ Z H)[i]).2 : Nat) : Int)] 80))] : AH) ++ fam 11 (frow Z (givC (givP H ls b a i) (k + 1) (plcQ Z H)[i])) 112 ls.length)) (n := 27) (ls.length - (k + 1)) ⟨k + 1, (by omega), J, J⟩ (by omega) id ⟨eD J J, eD J J, e_ J J, e_ J J, e_ J J, e_ J J, eD J J, eD J J, trivial⟩ (toH_app (toH_skip (offK_of (B := 11) (i := k) (by omega) J) ⟨rD J J J, r_ J J J, (rOF J (fun _ _ => J) J (by omega)), r_ J J J, rD J J J, r_ J J J, r_ J J J, rD J J J, trivial⟩) (famSet (by repeat (first | exact .nil | refine .cons rfl ?_)) (by omega) (by decide) frow_data J (fun j hj hne => givC_ne hne))) (injFam J J (by omega)) J J J (fun _ _ => J)
      · obtain rfl : k = ls.length := by omega
        refine W_exit J ?_
        refine thenQ_x ?_
        refine thenQ_x ?_
        refine blkQ_x J ?_
        refine thenQ_n ?_
        refine Wdraw J (by kernel_rfl) (by kernel_rfl) ?_
        refine Dv J J J (U_load1 J J J) J J ?_
        refine Dv J J J (U_nilCheck J) J J ?_
        refine Dv J J J (U_fieldAddr J) J J ?_
        refine Dv J J J (U_load1 J J J) J J ?_
        refine Dv J J J (U_load1 J J J) J J ?_
        refine Dv J J J (U_indexO (j := a) J J J (by omega)) J J ?_
        refine Dv J J J (U_load1 J (srcO J (by omega)) (famC_get (show a < ls.length by omega))) J J ?_
        refine Dv J J J (U_fieldAddr J) J J ?_
        refine Dv J J J (U_load1 J J J) J J ?_
        refine Dv J J J (U_fieldAddr J) J J ?_
        refine Dv J J J (U_load1 J J J) J J ?_
        refine Dv J J J (U_indexS (j := (plcQ Z H)[i].1) J J J (by omega)) J J ?_
        refine Dv J J J (U_indexA (j := (plcQ Z H)[i].2) J J J (show (plcQ Z H)[i].2 < 48 by omega)) J J ?_
        refine Dn_ J J J (U_store (n := 1) (cs' := frow Z (givP H ls b a (i + 1)) a) J J ((Tl.gt (B := 11) (F := fam 11 (frow Z (givC (givP H ls b a i) ls.length (plcQ Z H)[i])) 112 ls.length) (i := a) (by repeat (first | exact .nil | refine .cons rfl ?_)) (by omega)).trans (fam_get (show a < ls.length by omega))) J J (row_lt (by omega) (by omega)) J (row_put (by omega) (by omega) (givP_st ha hi_ hin))) J (upsFam J ((Tl.gt (B := 11) (F := fam 11 (frow Z (givC (givP H ls b a i) ls.length (plcQ Z H)[i])) 112 ls.length) (i := a) (by repeat (first | exact .nil | refine .cons rfl ?_)) (by omega)).trans (fam_get (show a < ls.length by omega)))) ?_
        refine Dr.nil J ?_
        refine blkQ_n ?_
        refine ⟨(gtSkip (show 11 + a ≠ 25 by omega) rfl), ?_⟩
        exact hN_ _ _ (toH_app (toH_skip (offK_of (B := 11) (i := a) (by omega) rfl) ⟨rD rfl rfl rfl, r_ rfl rfl rfl, (rOF rfl (fun _ _ => rfl) rfl (by omega)), r_ rfl rfl rfl, rD rfl rfl rfl, r_ rfl rfl rfl, trivial⟩) (famSet (i0 := a) (by repeat (first | exact .nil | refine .cons rfl ?_)) (by omega) (by decide) frow_data rfl (fun j hj hne => givP_ne hj hne hi_ hin)))
  rw [List.length_map]
  refine blkQ_n ?_
  refine thenQ_n ?_
  refine W_seq J ?_
  refine W_seq J ?_
  refine Wto id (T' := [(3, .rop [i64 ((H : Nat) : Int), i64 ((Z : Nat) : Int), .ros (ls.map boxesL) ls.length c] 0), (4, .rop [i64 ((a : Nat) : Int)] 0), (5, .rop [i64 b.fr, i64 b.wd, i64 b.lo, i64 b.hi] 0), (6, .ptr 0 0), (8, .ptr 21 0), (10, .ptr 22 0)]) (H' := (2, outB (famC 11 Z ls.length) 113 ls.length) :: (([(0, some (.cells [i64 0, i64 0, .nils] 24)), (1, some (.cells [i64 ((H : Nat) : Int), i64 ((Z : Nat) : Int), .ros (ls.map boxesL) ls.length c, .out 2 ls.length 1] 110)), (21, some (.cells [.ptr 1 0] 74)), (22, some (.cells [i64 ((H : Nat) : Int), i64 ((Z : Nat) : Int), .nils] 24))] : AH) ++ fam 11 (frow Z (givP H ls b a (plcQ Z H).length)) 112 ls.length)) (n := 24) ⟨eD J J, eD J J, eD J J, e_ J J, e_ J J, e_ J J, trivial⟩ ⟨(rOF J (fun _ _ => J) J (by omega)), rD J J J, r_ J J J, r_ J J J, rD J J J, (famKeep (fun _ _ => J) (by repeat (first | exact .nil | refine .cons rfl ?_)) (by omega) (by decide) frow_data)⟩ (injFam (L := [(2, _), (0, _), (1, _), (21, _), (22, _)]) J J (by omega)) J J J (fun _ _ => J) ?_
  refine W_frFam (by omega) frow_data J J (fun i hi cs => by simp only [frT, AV.fr, beqF (show 0 ≠ 11 + i by omega), beqF (show 1 ≠ 11 + i by omega), beqF (show 2 ≠ 11 + i by omega), beqF (show 21 ≠ 11 + i by omega), beqF (show 22 ≠ 11 + i by omega), Bool.false_eq_true, if_false]) (fun i hi cs => ⟨⟨by omega, fun q e => by cases e; simp only [ABlk.fr, frL, AV.fr, beqF (show 0 ≠ 11 + i by omega), beqF (show 1 ≠ 11 + i by omega), beqF (show 2 ≠ 11 + i by omega), beqF (show 21 ≠ 11 + i by omega), beqF (show 22 ≠ 11 + i by omega), Bool.false_eq_true, if_false]⟩, ⟨by omega, fun q e => by cases e; simp only [ABlk.fr, frL, AV.fr, beqF (show 0 ≠ 11 + i by omega), beqF (show 1 ≠ 11 + i by omega), beqF (show 2 ≠ 11 + i by omega), beqF (show 21 ≠ 11 + i by omega), beqF (show 22 ≠ 11 + i by omega), Bool.false_eq_true, if_false]⟩, ⟨by omega, fun q e => by cases e; simp only [ABlk.fr, frL, AV.fr, beqF (show 0 ≠ 11 + i by omega), beqF (show 1 ≠ 11 + i by omega), beqF (show 2 ≠ 11 + i by omega), beqF (show 21 ≠ 11 + i by omega), beqF (show 22 ≠ 11 + i by omega), Bool.false_eq_true, if_false]⟩, ⟨by omega, fun q e => by cases e; simp only [ABlk.fr, frL, AV.fr, beqF (show 0 ≠ 11 + i by omega), beqF (show 1 ≠ 11 + i by omega), beqF (show 2 ≠ 11 + i by omega), beqF (show 21 ≠ 11 + i by omega), beqF (show 22 ≠ 11 + i by omega), Bool.false_eq_true, if_false]⟩, trivial⟩) ?_
  rw [givR_cells]
  refine WfrO 2 ((givR Z H ls b a).map rowsL) J (mapD (fun _ => J) _) (T' := [(3, .rop [i64 ((H : Nat) : Int), i64 ((Z : Nat) : Int), .ros (ls.map boxesL) ls.length c] 0), (4, .rop [i64 ((a : Nat) : Int)] 0), (5, .rop [i64 b.fr, i64 b.wd, i64 b.lo, i64 b.hi] 0), (6, .ptr 0 0), (8, .ptr 21 0), (10, .ptr 22 0)]) (H' := [(0, some (.cells [i64 0, i64 0, .nils] 24)), (1, some (.cells [i64 ((H : Nat) : Int), i64 ((Z : Nat) : Int), .ros (ls.map boxesL) ls.length c, .ros ((givR Z H ls b a).map rowsL) ls.length none] 110)), (21, some (.cells [.ptr 1 0] 74)), (22, some (.cells [i64 ((H : Nat) : Int), i64 ((Z : Nat) : Int), .nils] 24))]) ⟨fD J J, fD J J, fD J J, fS J J, fS J J, fS J J, trivial⟩ ⟨⟨J, .cells (.same J)⟩, ⟨J, .cells (.cons (.same J) (.cons (.same J) (.cons (.same J) (.cons .out .nil))))⟩, ⟨J, .cells (.same J)⟩, ⟨J, .cells (.same J)⟩, trivial⟩ ?_
  refine WweakH (b := 1) (cs' := [i64 ((H : Nat) : Int), i64 ((Z : Nat) : Int), .ros (ls.map boxesL) ls.length c, .ros ((givR Z H ls b a).map rowsL) ((givR Z H ls b a).length) none]) J (by rw [show (givR Z H ls b a).length = ls.length from givR_len]; exact leL_refl _) ?_
  refine WfrN 1 J J (T' := [(3, .rop [i64 ((H : Nat) : Int), i64 ((Z : Nat) : Int), .ros (ls.map boxesL) ls.length c] 0), (4, .rop [i64 ((a : Nat) : Int)] 0), (5, .rop [i64 b.fr, i64 b.wd, i64 b.lo, i64 b.hi] 0), (6, .ptr 0 0), (8, .ptr 21 0), (10, .ptr 22 0)]) (H' := [(0, some (.cells [i64 0, i64 0, .nils] 24)), (21, some (.cells [.rop [i64 ((H : Nat) : Int), i64 ((Z : Nat) : Int), .ros (ls.map boxesL) ls.length c, .ros ((givR Z H ls b a).map rowsL) ((givR Z H ls b a).length) none] 0] 74)), (22, some (.cells [i64 ((H : Nat) : Int), i64 ((Z : Nat) : Int), .nils] 24))]) ⟨⟨_, J, J⟩, ⟨_, J, J⟩, ⟨_, J, J⟩, ⟨_, J, J⟩, ⟨_, J, J⟩, ⟨_, J, J⟩, trivial⟩ ⟨⟨J, rF J J⟩, ⟨J, rF J J⟩, ⟨J, rF J J⟩, trivial⟩ ?_
  refine WfrN 21 J J (T' := [(3, .rop [i64 ((H : Nat) : Int), i64 ((Z : Nat) : Int), .ros (ls.map boxesL) ls.length c] 0), (4, .rop [i64 ((a : Nat) : Int)] 0), (5, .rop [i64 b.fr, i64 b.wd, i64 b.lo, i64 b.hi] 0), (6, .ptr 0 0), (8, .rop [.rop [i64 ((H : Nat) : Int), i64 ((Z : Nat) : Int), .ros (ls.map boxesL) ls.length c, .ros ((givR Z H ls b a).map rowsL) ((givR Z H ls b a).length) none] 0] 0), (10, .ptr 22 0)]) (H' := [(0, some (.cells [i64 0, i64 0, .nils] 24)), (22, some (.cells [i64 ((H : Nat) : Int), i64 ((Z : Nat) : Int), .nils] 24))]) ⟨⟨_, J, J⟩, ⟨_, J, J⟩, ⟨_, J, J⟩, ⟨_, J, J⟩, ⟨_, J, J⟩, ⟨_, J, J⟩, trivial⟩ ⟨⟨J, rF J J⟩, ⟨J, rF J J⟩, trivial⟩ ?_
  refine W_reg J ?_
  refine Rv J J J (U_fieldAddrR J) J J ?_
  refine Rv J J J (U_load1 J J J) J J ?_
  refine Rv J J J (U_lenOf J len_ros) J J ?_
  refine Rv J J J (U_move J) J J ?_
  refine Rt J ?_
  refine W_block J ?_
  refine WweakH (b := 22) (cs' := [i64 ((H : Nat) : Int), i64 ((Z : Nat) : Int), .out 23 0 1]) J (leL_cons (le_refl _) (leL_cons (le_refl _) (leL_cons le_nils_out (leL_refl _)))) ?_
  refine LoopTo (T' := [(6, .ptr 0 0), (8, .rop [.rop [i64 ((H : Nat) : Int), i64 ((Z : Nat) : Int), .ros (ls.map boxesL) ls.length c, .ros ((givR Z H ls b a).map rowsL) ((givR Z H ls b a).length) none] 0] 0), (10, .ptr 22 0), (75, i64 ((ls.length : Nat) : Int)), (76, i64 ((0 : Nat) : Int))]) (H' := [(0, some (.cells [i64 0, i64 0, .nils] 24)), (22, some (.cells [i64 ((H : Nat) : Int), i64 ((Z : Nat) : Int), .out 23 [].length 1] 24)), (23, outB ([].map boxesL) 46 [].length)]) (n := 24) J (fun mz_ qz_ => ∃ (m : Nat) (D : List (List Bx)), m ≤ ls.length ∧ D = givK Z H ls b a m ∧ mz_ = ls.length - m ∧ qz_ = ⟨[(6, .ptr 0 0), (8, .rop [.rop [i64 ((H : Nat) : Int), i64 ((Z : Nat) : Int), .ros (ls.map boxesL) ls.length c, .ros ((givR Z H ls b a).map rowsL) ((givR Z H ls b a).length) none] 0] 0), (10, .ptr 22 0), (75, i64 ((ls.length : Nat) : Int)), (76, i64 ((m : Nat) : Int))], [(0, some (.cells [i64 0, i64 0, .nils] 24)), (22, some (.cells [i64 ((H : Nat) : Int), i64 ((Z : Nat) : Int), .out 23 D.length 1] 24)), (23, outB (D.map boxesL) 46 D.length)], 24, []⟩) ⟨0, [], (by omega), J, J, J⟩ id ⟨e_ J J, eD J J, e_ J J, eD J J, eD J J, trivial⟩ ⟨rD J J J, r_ J J J, rO0 J, trivial⟩ J J J J (fun _ _ => J) ?_
  rintro _ _ ⟨m, D, hi1_0, hi1_1, rfl, rfl⟩
  have hDl : D.length = m := by rw [hi1_1, givK_len]
  refine Wsr J J ?_
  refine Rv J J J (U_lss J J) J J ?_
  refine Rt J ?_
  refine W_seq J ?_
  refine WcondP J J (fun hc3 => ?_) (fun hc3 => ?_)
  · refine W_skip J ?_
    refine thenQ_n ?_
    refine W_seq J ?_
    refine W_block J ?_
    refine Wsr J J ?_
    refine Rv J J J (U_move J) J J ?_
    refine Rv J J J (U_assign J) J J ?_
    refine Rt J ?_
    refine Wjoin ⟨[(6, .ptr 0 0), (8, .rop [.rop [i64 ((H : Nat) : Int), i64 ((Z : Nat) : Int), .ros (ls.map boxesL) ls.length c, .ros ((givR Z H ls b a).map rowsL) ((givR Z H ls b a).length) none] 0] 0), (10, .ptr 22 0), (75, i64 ((ls.length : Nat) : Int)), (76, i64 ((m : Nat) : Int))], [(0, some (.cells [i64 0, i64 0, .nils] 24)), (22, some (.cells [i64 ((H : Nat) : Int), i64 ((Z : Nat) : Int), .out 24 ((D ++ [rnsK H (givP H ls b a (plcQ Z H).length m) Z]).length) 1] 24)), (24, outB ((D ++ [rnsK H (givP H ls b a (plcQ Z H).length m) Z]).map boxesL) 46 ((D ++ [rnsK H (givP H ls b a (plcQ Z H).length m) Z]).length))], 25, []⟩ ?_ ?_
    · rcases Nat.eq_zero_or_pos D.length with hz1 | hz1
      · refine Wdraw J (by kernel_rfl) (by kernel_rfl) ?_
        refine Dv J J J (U_fieldAddr J) J J ?_
        refine Dv J J J (U_load1 J J J) J J ?_
        refine Dv J J J (U_load1 J J J) J J ?_
        refine Dv J J J (U_move J) J J ?_
        refine Dv J J J (U_call J J (runs_p H Z ls c (givR Z H ls b a) m (by omega) _ (hRs m (by omega)) (by omega) (by omega)) J) J J ?_
        refine Dv J J J (U_buildSliceF (by rfl) (by decide) J J J) J J ?_
        refine Da J J J (U_appO0 (b := 23) (cs := (D.map boxesL)) (m := 0) (cs' := (D ++ [rnsK H (givP H ls b a (plcQ Z H).length m) Z]).map boxesL) (n' := (D ++ [rnsK H (givP H ls b a (plcQ Z H).length m) Z]).length) J hz1 J (by simp) (map_len1 _) J (by omega) (by rw [List.map_append]; rfl) (len1 _ _)) J J J J ?_
        refine Dv J J J (U_fieldAddr J) J J ?_
        refine Dn_ J J J (U_store J J J J J (Nat.le_of_ble_eq_true J) J J) J J ?_
        refine Dr.nil J ?_
        exact joinTo id ⟨e_ J J, eD J J, e_ J J, eD J J, eD J J, trivial⟩ ⟨rD J J J, r_ J J J, rO (mapD (fun _ => J) _) J J, trivial⟩ J J J J (fun _ _ => J)
      · refine Wdraw J (by kernel_rfl) (by kernel_rfl) ?_
        refine Dv J J J (U_fieldAddr J) J J ?_
        refine Dv J J J (U_load1 J J J) J J ?_
        refine Dv J J J (U_load1 J J J) J J ?_
        refine Dv J J J (U_move J) J J ?_
        refine Dv J J J (U_call J J (runs_p H Z ls c (givR Z H ls b a) m (by omega) _ (hRs m (by omega)) (by omega) (by omega)) J) J J ?_
        refine Dv J J J (U_buildSliceF (by rfl) (by decide) J J J) J J ?_
        refine Da J J J (U_appO (b := 23) (m := 0) (cs' := (D ++ [rnsK H (givP H ls b a (plcQ Z H).length m) Z]).map boxesL) (n' := (D ++ [rnsK H (givP H ls b a (plcQ Z H).length m) Z]).length) J J (by simp) J (map_len1 _) J J (by omega) (by rw [List.map_append]; rfl) (len1 _ _)) J J J (upsO J hz1) ?_
        refine Dv J J J (U_fieldAddr J) J J ?_
        refine Dn_ J J J (U_store J J J J J (Nat.le_of_ble_eq_true J) J J) J J ?_
        refine Dr.nil J ?_
        exact joinTo id ⟨e_ J J, eD J J, e_ J J, eD J J, eD J J, trivial⟩ ⟨rD J J J, r_ J J J, rO (mapD (fun _ => J) _) J J, trivial⟩ J J J J (fun _ _ => J)
    refine blkQ_n ?_
    refine thenQ_n ?_
    refine W_reg J ?_
    refine Rv J J J (U_add J J (w64e (m := ((m + 1 : Nat) : Int)) (by omega) (by omega) (by omega))) J J ?_
    refine Rv J J J (U_move J) J J ?_
    refine Rt J ?_
    exact againTo (T' := [(6, .ptr 0 0), (8, .rop [.rop [i64 ((H : Nat) : Int), i64 ((Z : Nat) : Int), .ros (ls.map boxesL) ls.length c, .ros ((givR Z H ls b a).map rowsL) ((givR Z H ls b a).length) none] 0] 0), (10, .ptr 22 0), (75, i64 ((ls.length : Nat) : Int)), (76, i64 (((m + 1) : Nat) : Int))]) (H' := [(0, some (.cells [i64 0, i64 0, .nils] 24)), (22, some (.cells [i64 ((H : Nat) : Int), i64 ((Z : Nat) : Int), .out 23 (D ++ [rnsK H (givP H ls b a (plcQ Z H).length m) Z]).length 1] 24)), (23, outB ((D ++ [rnsK H (givP H ls b a (plcQ Z H).length m) Z]).map boxesL) 46 (D ++ [rnsK H (givP H ls b a (plcQ Z H).length m) Z]).length)]) (n := 24) (ls.length - (m + 1)) ⟨m + 1, D ++ [rnsK H (givP H ls b a (plcQ Z H).length m) Z], (by omega), (by rw [givK_succ, ← hi1_1, plcQ_len]), J, J⟩ (by omega) (mapN [0, 1, 2, 3, 4, 5, 6, 7, 8, 9, 10, 11, 12, 13, 14, 15, 16, 17, 18, 19, 20, 21, 22, 24]) ⟨e_ J J, eD J J, e_ J J, eD J J, eD J J, trivial⟩ ⟨rD J J J, r_ J J J, rO (mapD (fun _ => J) _) J J, trivial⟩ J J J J (fun _ h => absurd h (Nat.not_lt_zero _))
  · refine W_exit J ?_
    refine thenQ_x ?_
    refine thenQ_x ?_
    refine blkQ_x J ?_
    refine thenQ_n ?_
    refine Wsr J J ?_
    refine Rv J J J (U_load3 J J J J J) J J ?_
    refine Rn J J J (U_storeAll J J J J J J) J ?_
    refine Rv J J J (U_assign J) J J ?_
    refine Rt J ?_
    refine WfrO 23 (D.map boxesL) J (mapD (fun _ => J) _) (T' := [(6, .ptr 0 0), (7, i64 0)]) (H' := [(0, some (.cells [i64 ((H : Nat) : Int), i64 ((Z : Nat) : Int), .ros (D.map boxesL) D.length none] 24))]) ⟨fS J J, fD J J, trivial⟩ ⟨⟨J, .cells (.cons (.same J) (.cons (.same J) (.cons .out .nil)))⟩, trivial⟩ ?_
    refine W_ret J ?_
    exact retL (rlA J J J (rlT J rl0)) (by first | rfl | (simp only [packA]; rw [hi1_1, show m = ls.length by omega]; rfl; first | done | rfl)) J
end Go.Proofs.Ythlolelbmhfdbaa
end

section
namespace Go.Proofs.Ythlolelbmhfdbaa
set_option maxRecDepth 20000
open Go.AE
def gvR (s : Sk) (a : Int) (b : Bx) : Sk := if boxE s a b = 0 then ⟨s.h, s.z, givQ s.z.toNat s.h.toNat s.ls b a.toNat⟩ else ⟨0, 0, []⟩
theorem gvR_g {H Z : Nat} {ls : List (List Bx)} {a : Nat} {b : Bx} (hc : chkS ⟨H, Z, ls⟩ = 0) (ha : a < ls.length) (hb : isB b H Z = true) : gvR ⟨H, Z, ls⟩ (a : Int) b = ⟨H, Z, givQ Z H ls b a⟩ := if_pos (boxE_0 hc ha hb)
theorem gvR_e {s : Sk} {a : Int} {b : Bx} (h : boxE s a b ≠ 0) : gvR s a b = ⟨0, 0, []⟩ := if_neg h
theorem giv_e (s : Sk) (c : Option Nat) (hl : s.ls.length ≤ 1000000) (hbl : ∀ l ∈ s.ls, l.length ≤ 1000000) (a : Int) (b : Bx) (hE : boxE s a b ≠ 0) : Pure Try.prog 43 [.agg [i64 s.h, i64 s.z, landsA s.ls c], i64 a, bxA b] (.tup [.agg [i64 0, i64 0, landsA ([] : List (List Bx)) none], i64 (boxE s a b)]) := by
  refine pure_of_body Try.func43 (c := body Try.f43) J (by simp [Try.ntmps43]) fun w0 Φ0 => ?_
  refine Wsr J J ?_
  refine Rv J J J (U_boxF J J J) J J ?_
  refine Rv J J J (U_boxF J J J) J J ?_
  refine Rv J J J (U_boxF J J J) J J ?_
  refine Ra J J J (U_alloc) J J J ?_
  refine Rv J J J (U_assign J) J J ?_
  refine Rt J ?_
  refine Wsr J J ?_
  refine Rv J J J (U_load3 J J J J J) J J ?_
  refine Rv J J J (U_load1 J J J) J J ?_
  refine Rv J J J (U_load4 J J J J J J) J J ?_
  refine Rv J J J (U_call J J (boxedE_p s c hl hbl a b hE) J) J J ?_
  refine Rv J J J (U_move J) J J ?_
  refine Rv J J J (U_extract J J) J J ?_
  refine Rv J J J (U_extract J J) J J ?_
  refine Ra J J J (U_alloc) J J J ?_
  refine Rn J J J (U_store1 J J J J) J ?_
  refine Rv J J J (U_assign J) J J ?_
  refine Rt J ?_
  refine WfrN 1 J J (T' := [(3, .rop [i64 s.h, i64 s.z, .ros (s.ls.map boxesL) s.ls.length c] 0), (4, .rop [i64 a] 0), (5, .rop [i64 b.fr, i64 b.wd, i64 b.lo, i64 b.hi] 0), (6, .ptr 0 0), (8, .rop [.nilp] 0), (9, i64 (boxE s a b))]) (H' := [(0, some (.cells [i64 0, i64 0, .nils] 24))]) ⟨⟨_, J, J⟩, ⟨_, J, J⟩, ⟨_, J, J⟩, ⟨_, J, J⟩, ⟨_, J, J⟩, ⟨_, J, J⟩, trivial⟩ ⟨⟨J, rF J J⟩, trivial⟩ ?_
  refine W_seq J ?_
  refine Wsr J J ?_
  refine Rv J J J (U_move J) J J ?_
  refine Rv J J J (U_neq J J) J J ?_
  refine Rt J ?_
  refine WcondP J J (fun hc0 => ?_) (fun hc0 => absurd (hE) hc0)
  refine Wsr J J ?_
  refine Rv J J J (U_build J J) J J ?_
  refine Rv J J J (U_move J) J J ?_
  refine Rn J J J (U_storeAll J J J J J J) J ?_
  refine Rv J J J (U_assign J) J J ?_
  refine Rt J ?_
  refine WweakH (b := 0) (cs' := [i64 0, i64 0, .ros [] 0 none]) J (leL_cons (le_refl _) (leL_cons (le_refl _) (leL_cons le_nils (leL_refl _)))) ?_
  refine W_ret J ?_
  refine thenQ_r ?_
  exact retL (rlA J J J (rlT J rl0)) (by first | rfl | (simp only [packA]; rfl; first | done | rfl)) J
theorem givA_p (s : Sk) (c : Option Nat) (hl : s.ls.length ≤ 1000000) (hbl : ∀ l ∈ s.ls, l.length ≤ 1000000) (a : Int) (b : Bx) : Pure Try.prog 43 [.agg [i64 s.h, i64 s.z, landsA s.ls c], i64 a, bxA b] (.tup [.agg [i64 (gvR s a b).h, i64 (gvR s a b).z, landsA (gvR s a b).ls none], i64 (boxE s a b)]) := by
  by_cases hE : boxE s a b = 0
  · obtain ⟨H, Z, ls, a, rfl, hc, hv, rfl, ha, hb⟩ := boxE_ok hE
    rw [gvR_g hc ha hb, hE]
    exact giv_g H Z ls c hc hv a ha b hb
  · rw [gvR_e hE]
    exact giv_e s c hl hbl a b hE
end Go.Proofs.Ythlolelbmhfdbaa
end

section
namespace Go.Proofs.Ythlolelbmhfdbaa
set_option maxRecDepth 20000
open Go.AE
theorem bx_iff {a b : Bx} : (a.fr = b.fr ∧ a.wd = b.wd ∧ a.lo = b.lo ∧ a.hi = b.hi) ↔ a = b := by
  constructor
  · intro h; cases a; cases b; simpa using h
  · rintro rfl; exact ⟨rfl, rfl, rfl, rfl⟩
theorem ints_p (a b : List Int) (c d : Option Nat) (ha : a.length ≤ 1000000) (hb : b.length ≤ 1000000) : Pure Try.prog 24 [intsA a c, intsA b d] (.bool (decide (a = b))) := by
  refine pure_of_body Try.func24 (c := body Try.f24) J (by simp [Try.ntmps24]) fun w0 Φ0 => ?_
  refine Wsr J J ?_
  refine Rv J J J (U_assign J) J J ?_
  refine Rt J ?_
  refine W_seq J ?_
  refine Wsr J J ?_
  refine Rv J J J (U_move J) J J ?_
  refine Rv J J J (U_lenOf J len_ros) J J ?_
  refine Rv J J J (U_move J) J J ?_
  refine Rv J J J (U_lenOf J len_ros) J J ?_
  refine Rv J J J (U_neq J J) J J ?_
  refine Rt J ?_
  refine WcondP J J (fun hc0 => ?_) (fun hc0 => ?_)
  · refine Wsr J J ?_
    refine Rv J J J (U_assign J) J J ?_
    refine Rt J ?_
    refine W_ret J ?_
    refine thenQ_r ?_
    exact retL (rlT J rl0) (by first | rfl | (first | exact congrArg AV.bool (decide_eq_true (list_eq (by omega) fun j h1 h2 => hi0_1 j h1 h2 (by omega))).symm | exact congrArg AV.bool (decide_eq_false (list_ne (by omega) (by omega) (by simpa [bx_iff] using hc2))).symm | exact congrArg AV.bool (decide_eq_false fun h => by subst h; omega).symm; done)) J
  · rw [Decidable.not_not] at hc0
    refine W_skip J ?_
    refine thenQ_n ?_
    refine W_seq J ?_
    refine Wsr J J ?_
    refine Rv J J J (U_assign J) J J ?_
    refine Rt J ?_
    refine W_block J ?_
    refine LoopTo (T' := [(0, .ros (a.map i64) a.length c), (1, .ros (b.map i64) b.length d), (5, i64 ((0 : Nat) : Int))]) (H' := []) (n := 0) J (fun mz_ qz_ => ∃ (i : Nat), i ≤ a.length ∧ ((∀ j (h1 : j < a.length) (h2 : j < b.length), j < i → a[j] = b[j])) ∧ mz_ = a.length - i ∧ qz_ = ⟨[(0, .ros (a.map i64) a.length c), (1, .ros (b.map i64) b.length d), (5, i64 ((i : Nat) : Int))], [], 0, []⟩) ⟨0, (by omega), (fun j _ _ h => absurd h (Nat.not_lt_zero _)), J, J⟩ id ⟨eD J J, eD J J, eD J J, trivial⟩ trivial J J J J (fun _ _ => J) ?_
    rintro _ _ ⟨i, hi0_0, hi0_1, rfl, rfl⟩
    refine W_seq J ?_
    refine Wsr J J ?_
    refine Rv J J J (U_move J) J J ?_
    refine Rv J J J (U_move J) J J ?_
    refine Rv J J J (U_lenOf J len_ros) J J ?_
    refine Rv J J J (U_lss J J) J J ?_
    refine Rt J ?_
    refine WcondP J J (fun hc1 => ?_) (fun hc1 => ?_)
    · have hib : i < b.length := by omega
      refine W_skip J ?_
      refine thenQ_n ?_
      refine W_seq J ?_
      refine W_block J ?_
      refine W_seq J ?_
      refine Wdraw J (by kernel_rfl) (by kernel_rfl) ?_
      refine Dv J J J (U_move J) J J ?_
      refine Dv J J J (U_move J) J J ?_
      have hx1 : i < a.length := by omega
      refine Dv J J J (U_indexR (j := i) J J J hx1) J J ?_
      refine Dv J J J (U_load1 J J (getM hx1)) J J ?_
      refine Dv J J J (U_move J) J J ?_
      refine Dv J J J (U_move J) J J ?_
      have hx2 : i < b.length := by omega
      refine Dv J J J (U_indexR (j := i) J J J hx2) J J ?_
      refine Dv J J J (U_load1 J J (getM hx2)) J J ?_
      refine Dv J J J (U_neq J J) J J ?_
      refine Dr.nil J ?_
      refine thenQ_n ?_
      refine WcondP J J (fun hc2 => ?_) (fun hc2 => ?_)
      · refine Wsr J J ?_
        refine Rv J J J (U_assign J) J J ?_
        refine Rt J ?_
        refine W_ret J ?_
        refine blkQ_r ?_
        refine thenQ_r ?_
        refine thenQ_r ?_
        refine blkQ_r ?_
        refine thenQ_r ?_
        exact retL (rlT J rl0) (by first | rfl | (first | exact congrArg AV.bool (decide_eq_true (list_eq (by omega) fun j h1 h2 => hi0_1 j h1 h2 (by omega))).symm | exact congrArg AV.bool (decide_eq_false (list_ne (by omega) (by omega) (by simpa [bx_iff] using hc2))).symm | exact congrArg AV.bool (decide_eq_false fun h => by subst h; omega).symm; done)) J
      · rw [Decidable.not_not] at hc2
        refine W_skip J ?_
        refine blkQ_n ?_
        refine thenQ_n ?_
        refine W_reg J ?_
        refine Rv J J J (U_move J) J J ?_
        refine Rv J J J (U_add J J (w64e (m := ((i + 1 : Nat) : Int)) (by omega) (by omega) (by omega))) J J ?_
        refine Rv J J J (U_assign J) J J ?_
        refine Rt J ?_
        exact againTo (T' := [(0, .ros (a.map i64) a.length c), (1, .ros (b.map i64) b.length d), (5, i64 (((i + 1) : Nat) : Int))]) (H' := []) (n := 0) (a.length - (i + 1)) ⟨i + 1, (by omega), (by intro j h1 h2 h3; rcases Nat.lt_succ_iff_lt_or_eq.1 h3 with h4 | rfl; exact hi0_1 j h1 h2 h4; simpa [bx_iff] using hc2), J, J⟩ (by omega) id ⟨eD J J, eD J J, eD J J, trivial⟩ trivial J J J J (fun _ _ => J)
    · refine W_exit J ?_
      refine thenQ_x ?_
      refine thenQ_x ?_
      refine blkQ_x J ?_
      refine thenQ_n ?_
      refine Wsr J J ?_
      refine Rv J J J (U_assign J) J J ?_
      refine Rt J ?_
      refine W_ret J ?_
      exact retL (rlT J rl0) (by first | rfl | (first | exact congrArg AV.bool (decide_eq_true (list_eq (by omega) fun j h1 h2 => hi0_1 j h1 h2 (by omega))).symm | exact congrArg AV.bool (decide_eq_false (list_ne (by omega) (by omega) (by simpa [bx_iff] using hc2))).symm | exact congrArg AV.bool (decide_eq_false fun h => by subst h; omega).symm; done)) J
theorem samB_p (a b : List Bx) (c d : Option Nat) (ha : a.length ≤ 1000000) (hb : b.length ≤ 1000000) : Pure Try.prog 45 [boxesA a c, boxesA b d] (.bool (decide (a = b))) := by
  refine pure_of_body Try.func45 (c := body Try.f45) J (by simp [Try.ntmps45]) fun w0 Φ0 => ?_
  refine Wsr J J ?_
  refine Rv J J J (U_assign J) J J ?_
  refine Rt J ?_
  refine W_seq J ?_
  refine Wsr J J ?_
  refine Rv J J J (U_move J) J J ?_
  refine Rv J J J (U_lenOf J len_ros) J J ?_
  refine Rv J J J (U_move J) J J ?_
  refine Rv J J J (U_lenOf J len_ros) J J ?_
  refine Rv J J J (U_neq J J) J J ?_
  refine Rt J ?_
  refine WcondP J J (fun hc0 => ?_) (fun hc0 => ?_)
  · refine Wsr J J ?_
    refine Rv J J J (U_assign J) J J ?_
    refine Rt J ?_
    refine W_ret J ?_
    refine thenQ_r ?_
    exact retL (rlT J rl0) (by first | rfl | (first | exact congrArg AV.bool (decide_eq_true (list_eq (by omega) fun j h1 h2 => hi0_1 j h1 h2 (by omega))).symm | exact congrArg AV.bool (decide_eq_false (list_ne (by omega) (by omega) (by simpa [bx_iff] using hc2))).symm | exact congrArg AV.bool (decide_eq_false fun h => by subst h; omega).symm; done)) J
  · rw [Decidable.not_not] at hc0
    refine W_skip J ?_
    refine thenQ_n ?_
    refine W_seq J ?_
    refine Wsr J J ?_
    refine Rv J J J (U_assign J) J J ?_
    refine Rt J ?_
    refine W_block J ?_
    refine LoopTo (T' := [(0, .ros (a.flatMap bxC) a.length c), (1, .ros (b.flatMap bxC) b.length d), (5, i64 ((0 : Nat) : Int))]) (H' := []) (n := 0) J (fun mz_ qz_ => ∃ (i : Nat), i ≤ a.length ∧ ((∀ j (h1 : j < a.length) (h2 : j < b.length), j < i → a[j] = b[j])) ∧ mz_ = a.length - i ∧ qz_ = ⟨[(0, .ros (a.flatMap bxC) a.length c), (1, .ros (b.flatMap bxC) b.length d), (5, i64 ((i : Nat) : Int))], [], 0, []⟩) ⟨0, (by omega), (fun j _ _ h => absurd h (Nat.not_lt_zero _)), J, J⟩ id ⟨eD J J, eD J J, eD J J, trivial⟩ trivial J J J J (fun _ _ => J) ?_
    rintro _ _ ⟨i, hi0_0, hi0_1, rfl, rfl⟩
    refine W_seq J ?_
    refine Wsr J J ?_
    refine Rv J J J (U_move J) J J ?_
    refine Rv J J J (U_move J) J J ?_
    refine Rv J J J (U_lenOf J len_ros) J J ?_
    refine Rv J J J (U_lss J J) J J ?_
    refine Rt J ?_
    refine WcondP J J (fun hc1 => ?_) (fun hc1 => ?_)
    · have hib : i < b.length := by omega
      refine W_skip J ?_
      refine thenQ_n ?_
      refine W_seq J ?_
      refine W_block J ?_
      refine W_seq J ?_
      refine Wdraw J (by kernel_rfl) (by kernel_rfl) ?_
      refine Dv J J J (U_move J) J J ?_
      refine Dv J J J (U_move J) J J ?_
      have hx1 : i < a.length := by omega
      refine Dv J J J (U_indexR (j := i) J J J hx1) J J ?_
      refine Dv J J J (U_load4 J J (bxG0 hx1) (bxG1 hx1) (bxG2 hx1) (bxG3 hx1)) J J ?_
      refine Dv J J J (U_move J) J J ?_
      refine Dv J J J (U_move J) J J ?_
      have hx2 : i < b.length := by omega
      refine Dv J J J (U_indexR (j := i) J J J hx2) J J ?_
      refine Dv J J J (U_load4 J J (bxG0 hx2) (bxG1 hx2) (bxG2 hx2) (bxG3 hx2)) J J ?_
      refine Dv J J J (U_neqA (p := a[i].fr = b[i].fr ∧ a[i].wd = b[i].wd ∧ a[i].lo = b[i].lo ∧ a[i].hi = b[i].hi) J J J J J J (by simp)) J J ?_
      refine Dr.nil J ?_
      refine thenQ_n ?_
      refine WcondP J J (fun hc2 => ?_) (fun hc2 => ?_)
      · refine Wsr J J ?_
        refine Rv J J J (U_assign J) J J ?_
        refine Rt J ?_
        refine W_ret J ?_
        refine blkQ_r ?_
        refine thenQ_r ?_
        refine thenQ_r ?_
        refine blkQ_r ?_
        refine thenQ_r ?_
        exact retL (rlT J rl0) (by first | rfl | (first | exact congrArg AV.bool (decide_eq_true (list_eq (by omega) fun j h1 h2 => hi0_1 j h1 h2 (by omega))).symm | exact congrArg AV.bool (decide_eq_false (list_ne (by omega) (by omega) (by simpa [bx_iff] using hc2))).symm | exact congrArg AV.bool (decide_eq_false fun h => by subst h; omega).symm; done)) J
      · refine W_skip J ?_
        refine blkQ_n ?_
        refine thenQ_n ?_
        refine W_reg J ?_
        refine Rv J J J (U_move J) J J ?_
        refine Rv J J J (U_add J J (w64e (m := ((i + 1 : Nat) : Int)) (by omega) (by omega) (by omega))) J J ?_
        refine Rv J J J (U_assign J) J J ?_
        refine Rt J ?_
        exact againTo (T' := [(0, .ros (a.flatMap bxC) a.length c), (1, .ros (b.flatMap bxC) b.length d), (5, i64 (((i + 1) : Nat) : Int))]) (H' := []) (n := 0) (a.length - (i + 1)) ⟨i + 1, (by omega), (by intro j h1 h2 h3; rcases Nat.lt_succ_iff_lt_or_eq.1 h3 with h4 | rfl; exact hi0_1 j h1 h2 h4; simpa [bx_iff] using hc2), J, J⟩ (by omega) id ⟨eD J J, eD J J, eD J J, trivial⟩ trivial J J J J (fun _ _ => J)
    · refine W_exit J ?_
      refine thenQ_x ?_
      refine thenQ_x ?_
      refine blkQ_x J ?_
      refine thenQ_n ?_
      refine Wsr J J ?_
      refine Rv J J J (U_assign J) J J ?_
      refine Rt J ?_
      refine W_ret J ?_
      exact retL (rlT J rl0) (by first | rfl | (first | exact congrArg AV.bool (decide_eq_true (list_eq (by omega) fun j h1 h2 => hi0_1 j h1 h2 (by omega))).symm | exact congrArg AV.bool (decide_eq_false (list_ne (by omega) (by omega) (by simpa [bx_iff] using hc2))).symm | exact congrArg AV.bool (decide_eq_false fun h => by subst h; omega).symm; done)) J
theorem samBT_p (a b : List Bx) (c d : Option Nat) (ha : a.length ≤ 1000000) (hb : b.length ≤ 1000000) (h : a = b) : Pure Try.prog 45 [boxesA a c, boxesA b d] (.bool true) := by
  have := samB_p a b c d ha hb; rwa [decide_eq_true h] at this
theorem intsT_p (a b : List Int) (c d : Option Nat) (ha : a.length ≤ 1000000) (hb : b.length ≤ 1000000) (h : a = b) : Pure Try.prog 24 [intsA a c, intsA b d] (.bool true) := by
  have := ints_p a b c d ha hb; rwa [decide_eq_true h] at this
theorem of_p60 (l : List Int) (c : Option Nat) : Pure Try.prog 60 [intsA l c] (intsA l c) := by
  refine pure_of_body Try.func60 (c := body Try.f60) J (by simp [Try.ntmps60]) fun w0 Φ0 => ?_
  refine Wsr J J ?_
  refine Rv J J J (U_assign J) J J ?_
  refine Rt J ?_
  refine Wsr J J ?_
  refine Rv J J J (U_move J) J J ?_
  refine Rv J J J (U_assign J) J J ?_
  refine Rt J ?_
  refine W_ret J ?_
  exact retL (rlT J rl0) J J
theorem box_p (a b c d : Int) : Pure Try.prog 61 [i64 a, i64 b, i64 c, i64 d] (.agg [i64 a, i64 b, i64 c, i64 d]) := by
  refine pure_of_body Try.func61 (c := body Try.f61) J (by simp [Try.ntmps61]) fun w0 Φ0 => ?_
  refine Wsr J J ?_
  refine Ra J J J (U_alloc) J J J ?_
  refine Rt J ?_
  refine Wsr J J ?_
  refine Rv J J J (U_move J) J J ?_
  refine Rv J J J (U_move J) J J ?_
  refine Rv J J J (U_move J) J J ?_
  refine Rv J J J (U_move J) J J ?_
  refine Rv J J J (U_build J J) J J ?_
  refine Rn J J J (U_storeAll J J J J J J) J ?_
  refine Rt J ?_
  refine W_ret J ?_
  exact retL (rlA J J J rl0) J J
def bxsK (l : List Int) (k : Nat) : List Bx := (List.range k).map fun j => ⟨l.getD (4 * j) 0, l.getD (4 * j + 1) 0, l.getD (4 * j + 2) 0, l.getD (4 * j + 3) 0⟩
def bxsQ (l : List Int) : List Bx := bxsK l (l.length / 4)
theorem bxsK_len {l : List Int} {k : Nat} : (bxsK l k).length = k := by simp [bxsK]
theorem bxsK_succ {l : List Int} {k : Nat} (h : 4 * k + 3 < l.length) : bxsK l (k + 1) = bxsK l k ++ [⟨l[4 * k], l[4 * k + 1], l[4 * k + 2], l[4 * k + 3]⟩] := by
  unfold bxsK
  rw [List.range_succ, List.map_append]
  simp only [List.map_cons, List.map_nil, List.getD_eq_getElem?_getD]
  rw [List.getElem?_eq_getElem (show 4 * k < l.length by omega), List.getElem?_eq_getElem (show 4 * k + 1 < l.length by omega), List.getElem?_eq_getElem (show 4 * k + 2 < l.length by omega), List.getElem?_eq_getElem h]
  rfl
theorem boxes_p (l : List Int) (c : Option Nat) (hl : l.length ≤ 1000000) : Pure Try.prog 62 [intsA l c] (boxesA (bxsQ l) none) := by
  refine pure_of_body Try.func62 (c := body Try.f62) J (by simp [Try.ntmps62]) fun w0 Φ0 => ?_
  refine Wsr J J ?_
  refine Rv J J J (U_assign J) J J ?_
  refine Rt J ?_
  refine Wsr J J ?_
  refine Rv J J J (U_assign J) J J ?_
  refine Rt J ?_
  refine W_seq J ?_
  refine Wsr J J ?_
  refine Rv J J J (U_assign J) J J ?_
  refine Rt J ?_
  refine W_block J ?_
  refine LoopTo (T' := [(0, .ros (l.map i64) l.length c), (3, .out 0 [].length 4), (4, i64 ((4 * 0 : Nat) : Int))]) (H' := [(0, outB ([].flatMap bxC) 44 [].length)]) (n := 1) J (fun mz_ qz_ => ∃ (k : Nat) (D : List Bx), D = bxsK l k ∧ 4 * k ≤ l.length ∧ mz_ = l.length - 4 * k ∧ qz_ = ⟨[(0, .ros (l.map i64) l.length c), (3, .out 0 D.length 4), (4, i64 ((4 * k : Nat) : Int))], [(0, outB (D.flatMap bxC) 44 D.length)], 1, []⟩) ⟨0, [], J, (by omega), J, J⟩ id ⟨eD J J, eW J le_nils_out J, eD J J, trivial⟩ ⟨rO0 J, trivial⟩ J J J J (fun _ _ => J) ?_
  rintro _ _ ⟨k, D, hi0_0, hi0_1, rfl, rfl⟩
  have hDl : D.length = k := by rw [hi0_0, bxsK_len]
  refine W_seq J ?_
  refine Wsr J J ?_
  refine Rv J J J (U_move J) J J ?_
  refine Rv J J J (U_add J J (w64e (m := ((4 * k + 3 : Nat) : Int)) (by omega) (by omega) (by omega))) J J ?_
  refine Rv J J J (U_move J) J J ?_
  refine Rv J J J (U_lenOf J len_ros) J J ?_
  refine Rv J J J (U_lss J J) J J ?_
  refine Rt J ?_
  refine WcondP J J (fun hc0 => ?_) (fun hc0 => ?_)
  · refine W_skip J ?_
    refine thenQ_n ?_
    refine W_seq J ?_
    refine W_block J ?_
    refine Wjoin ⟨[(0, .ros (l.map i64) l.length c), (3, .out 1 ((D ++ [(⟨l[(4 * k)], l[(4 * k + 1)], l[(4 * k + 2)], l[(4 * k + 3)]⟩ : Bx)]).length) 4), (4, i64 ((4 * k : Nat) : Int))], [(1, outB ((D ++ [(⟨l[(4 * k)], l[(4 * k + 1)], l[(4 * k + 2)], l[(4 * k + 3)]⟩ : Bx)]).flatMap bxC) 44 ((D ++ [(⟨l[(4 * k)], l[(4 * k + 1)], l[(4 * k + 2)], l[(4 * k + 3)]⟩ : Bx)]).length))], 2, []⟩ ?_ ?_
    · rcases Nat.eq_zero_or_pos D.length with hz1 | hz1
      · refine Wdraw J (by kernel_rfl) (by kernel_rfl) ?_
        refine Dv J J J (U_move J) J J ?_
        refine Dv J J J (U_move J) J J ?_
        refine Dv J J J (U_move J) J J ?_
        have hx2 : (4 * k) < l.length := by omega
        refine Dv J J J (U_indexR (j := (4 * k)) J J J hx2) J J ?_
        refine Dv J J J (U_load1 J J (getM hx2)) J J ?_
        refine Dv J J J (U_move J) J J ?_
        refine Dv J J J (U_move J) J J ?_
        refine Dv J J J (U_add J J (w64e (m := ((4 * k + 1 : Nat) : Int)) (by omega) (by omega) (by omega))) J J ?_
        have hx3 : (4 * k + 1) < l.length := by omega
        refine Dv J J J (U_indexR (j := (4 * k + 1)) J J J hx3) J J ?_
        refine Dv J J J (U_load1 J J (getM hx3)) J J ?_
        refine Dv J J J (U_move J) J J ?_
        refine Dv J J J (U_move J) J J ?_
        refine Dv J J J (U_add J J (w64e (m := ((4 * k + 2 : Nat) : Int)) (by omega) (by omega) (by omega))) J J ?_
        have hx4 : (4 * k + 2) < l.length := by omega
        refine Dv J J J (U_indexR (j := (4 * k + 2)) J J J hx4) J J ?_
        refine Dv J J J (U_load1 J J (getM hx4)) J J ?_
        refine Dv J J J (U_move J) J J ?_
        refine Dv J J J (U_move J) J J ?_
        refine Dv J J J (U_add J J (w64e (m := ((4 * k + 3 : Nat) : Int)) (by omega) (by omega) (by omega))) J J ?_
        have hx5 : (4 * k + 3) < l.length := by omega
        refine Dv J J J (U_indexR (j := (4 * k + 3)) J J J hx5) J J ?_
        refine Dv J J J (U_load1 J J (getM hx5)) J J ?_
        refine Dv J J J (U_build J J) J J ?_
        refine Dv J J J (U_buildSliceF (by rfl) (by decide) J J J) J J ?_
        refine Da J J J (U_appO0 (b := 0) (cs := (D.flatMap bxC)) (m := 0) (cs' := (D ++ [(⟨l[(4 * k)], l[(4 * k + 1)], l[(4 * k + 2)], l[(4 * k + 3)]⟩ : Bx)]).flatMap bxC) (n' := (D ++ [(⟨l[(4 * k)], l[(4 * k + 1)], l[(4 * k + 2)], l[(4 * k + 3)]⟩ : Bx)]).length) J hz1 J (by simp) (flat_len (z := 4) (fun _ => J) _) J (by omega) (appF (f := bxC) D ⟨l[4 * k], l[4 * k + 1], l[4 * k + 2], l[4 * k + 3]⟩) (len1 _ _)) J J J J ?_
        refine Dv J J J (U_assign J) J J ?_
        refine Dr.nil J ?_
        exact joinTo id ⟨eD J J, e_ J J, eD J J, trivial⟩ ⟨rO (flatD (fun _ => J) _) J J, trivial⟩ J J J J (fun _ _ => J)
      · refine Wdraw J (by kernel_rfl) (by kernel_rfl) ?_
        refine Dv J J J (U_move J) J J ?_
        refine Dv J J J (U_move J) J J ?_
        refine Dv J J J (U_move J) J J ?_
        have hx6 : (4 * k) < l.length := by omega
        refine Dv J J J (U_indexR (j := (4 * k)) J J J hx6) J J ?_
        refine Dv J J J (U_load1 J J (getM hx6)) J J ?_
        refine Dv J J J (U_move J) J J ?_
        refine Dv J J J (U_move J) J J ?_
        refine Dv J J J (U_add J J (w64e (m := ((4 * k + 1 : Nat) : Int)) (by omega) (by omega) (by omega))) J J ?_
        have hx7 : (4 * k + 1) < l.length := by omega
        refine Dv J J J (U_indexR (j := (4 * k + 1)) J J J hx7) J J ?_
        refine Dv J J J (U_load1 J J (getM hx7)) J J ?_
        refine Dv J J J (U_move J) J J ?_
        refine Dv J J J (U_move J) J J ?_
        refine Dv J J J (U_add J J (w64e (m := ((4 * k + 2 : Nat) : Int)) (by omega) (by omega) (by omega))) J J ?_
        have hx8 : (4 * k + 2) < l.length := by omega
        refine Dv J J J (U_indexR (j := (4 * k + 2)) J J J hx8) J J ?_
        refine Dv J J J (U_load1 J J (getM hx8)) J J ?_
        refine Dv J J J (U_move J) J J ?_
        refine Dv J J J (U_move J) J J ?_
        refine Dv J J J (U_add J J (w64e (m := ((4 * k + 3 : Nat) : Int)) (by omega) (by omega) (by omega))) J J ?_
        have hx9 : (4 * k + 3) < l.length := by omega
        refine Dv J J J (U_indexR (j := (4 * k + 3)) J J J hx9) J J ?_
        refine Dv J J J (U_load1 J J (getM hx9)) J J ?_
        refine Dv J J J (U_build J J) J J ?_
        refine Dv J J J (U_buildSliceF (by rfl) (by decide) J J J) J J ?_
        refine Da J J J (U_appO (b := 0) (m := 0) (cs' := (D ++ [(⟨l[(4 * k)], l[(4 * k + 1)], l[(4 * k + 2)], l[(4 * k + 3)]⟩ : Bx)]).flatMap bxC) (n' := (D ++ [(⟨l[(4 * k)], l[(4 * k + 1)], l[(4 * k + 2)], l[(4 * k + 3)]⟩ : Bx)]).length) J J (by simp) J (flat_len (z := 4) (fun _ => J) _) J J (by omega) (appF (f := bxC) D ⟨l[4 * k], l[4 * k + 1], l[4 * k + 2], l[4 * k + 3]⟩) (len1 _ _)) J J J (upsO J hz1) ?_
        refine Dv J J J (U_assign J) J J ?_
        refine Dr.nil J ?_
        exact joinTo id ⟨eD J J, e_ J J, eD J J, trivial⟩ ⟨rO (flatD (fun _ => J) _) J J, trivial⟩ J J J J (fun _ _ => J)
    refine blkQ_n ?_
    refine thenQ_n ?_
    refine W_reg J ?_
    refine Rv J J J (U_move J) J J ?_
    refine Rv J J J (U_add J J (w64e (m := ((4 * k + 4 : Nat) : Int)) (by omega) (by omega) (by omega))) J J ?_
    refine Rv J J J (U_assign J) J J ?_
    refine Rt J ?_
    exact againTo (T' := [(0, .ros (l.map i64) l.length c), (3, .out 0 (D ++ [(⟨l[(4 * k)], l[(4 * k + 1)], l[(4 * k + 2)], l[(4 * k + 3)]⟩ : Bx)]).length 4), (4, i64 ((4 * (k + 1) : Nat) : Int))]) (H' := [(0, outB ((D ++ [(⟨l[(4 * k)], l[(4 * k + 1)], l[(4 * k + 2)], l[(4 * k + 3)]⟩ : Bx)]).flatMap bxC) 44 (D ++ [(⟨l[(4 * k)], l[(4 * k + 1)], l[(4 * k + 2)], l[(4 * k + 3)]⟩ : Bx)]).length)]) (n := 1) (l.length - 4 * (k + 1)) ⟨k + 1, D ++ [(⟨l[(4 * k)], l[(4 * k + 1)], l[(4 * k + 2)], l[(4 * k + 3)]⟩ : Bx)], (by rw [bxsK_succ (by omega), ← hi0_0]), (by omega), J, J⟩ (by omega) (mapN [1]) ⟨eD J J, e_ J J, eD J J, trivial⟩ ⟨rO (flatD (fun _ => J) _) J J, trivial⟩ J J J J (fun _ h => absurd h (Nat.not_lt_zero _))
  · refine W_exit J ?_
    refine thenQ_x ?_
    refine thenQ_x ?_
    refine blkQ_x J ?_
    refine thenQ_n ?_
    refine Wsr J J ?_
    refine Rv J J J (U_move J) J J ?_
    refine Rv J J J (U_assign J) J J ?_
    refine Rt J ?_
    refine WfrO 0 (D.flatMap bxC) J (flatD (fun _ => J) _) (T' := [(2, .ros (D.flatMap bxC) D.length none)]) (H' := []) ⟨fO J, trivial⟩ trivial ?_
    refine W_ret J ?_
    exact retL (rlT J rl0) (by first | rfl | (simp only [packA]; rw [hi0_0, show k = l.length / 4 by omega]; rfl; first | done | rfl)) J
theorem sky_p (a b : List Bx) : Pure Try.prog 95 [boxesA a none, boxesA b none] (.agg [i64 6, i64 3, landsA [a, bxsQ [2, 4, 0, 1, 2, 2, 1, 2], b] none]) := by
  refine pure_of_body Try.func95 (c := body Try.f95) J (by simp [Try.ntmps95]) fun w0 Φ0 => ?_
  refine Wsr J J ?_
  refine Ra J J J (U_alloc) J J J ?_
  refine Rt J ?_
  refine Wsr J J ?_
  refine Rv J J J (U_move J) J J ?_
  refine Rv J J J (U_buildSliceF (by rfl) (by decide) J J J) J J ?_
  refine Rv J J J (U_call J J (boxes_p [2, 4, 0, 1, 2, 2, 1, 2] (some 8) (by simp)) J) J J ?_
  refine Rv J J J (U_move J) J J ?_
  refine Rv J J J (U_buildSliceF (by rfl) (by decide) J J J) J J ?_
  refine Rv J J J (U_build J J) J J ?_
  refine Rn J J J (U_storeAll J J J J J J) J ?_
  refine Rt J ?_
  refine WweakH (b := 0) (cs' := [i64 6, i64 3, .ros [.ros (a.flatMap bxC) a.length none, .ros ((bxsQ [2, 4, 0, 1, 2, 2, 1, 2]).flatMap bxC) ((bxsQ [2, 4, 0, 1, 2, 2, 1, 2]).length) none, .ros (b.flatMap bxC) b.length none] 3 none]) J (leL_cons (le_refl _) (leL_cons (le_refl _) (leL_cons le_cap (leL_refl _)))) ?_
  refine W_ret J ?_
  exact retL (rlA J J J rl0) (by first | rfl | (simp only [packA]; rfl; first | done | rfl)) J
def goodS : Sk := ⟨6, 3, [bxsQ [0, 2, 0, 2], bxsQ [2, 4, 0, 1, 2, 2, 1, 2], bxsQ [4, 2, 1, 2, 0, 6, 2, 3]]⟩
theorem good_p  : Pure Try.prog 57 [] (.agg [i64 goodS.h, i64 goodS.z, landsA goodS.ls none]) := by
  refine pure_of_body Try.func57 (c := body Try.f57) J (by simp [Try.ntmps57]) fun w0 Φ0 => ?_
  refine Wsr J J ?_
  refine Ra J J J (U_alloc) J J J ?_
  refine Rt J ?_
  refine Wsr J J ?_
  refine Rv J J J (U_buildSliceF (by rfl) (by decide) J J J) J J ?_
  refine Rv J J J (U_call J J (boxes_p [0, 2, 0, 2] (some 4) (by simp)) J) J J ?_
  refine Rv J J J (U_buildSliceF (by rfl) (by decide) J J J) J J ?_
  refine Rv J J J (U_call J J (boxes_p [4, 2, 1, 2, 0, 6, 2, 3] (some 8) (by simp)) J) J J ?_
  refine Rv J J J (U_call J J (sky_p (bxsQ [0, 2, 0, 2]) (bxsQ [4, 2, 1, 2, 0, 6, 2, 3])) J) J J ?_
  refine Rn J J J (U_storeAll J J J J J J) J ?_
  refine Rt J ?_
  refine W_ret J ?_
  exact retL (rlA J J J rl0) (by first | rfl | (simp only [packA]; rfl; first | done | rfl)) J
def gapS : Sk := ⟨6, 3, [bxsQ [0, 2, 0, 2], bxsQ [2, 4, 0, 1, 2, 2, 1, 2], bxsQ [4, 2, 1, 2]]⟩
theorem gap_p  : Pure Try.prog 59 [] (.agg [i64 gapS.h, i64 gapS.z, landsA gapS.ls none]) := by
  refine pure_of_body Try.func59 (c := body Try.f59) J (by simp [Try.ntmps59]) fun w0 Φ0 => ?_
  refine Wsr J J ?_
  refine Ra J J J (U_alloc) J J J ?_
  refine Rt J ?_
  refine Wsr J J ?_
  refine Rv J J J (U_buildSliceF (by rfl) (by decide) J J J) J J ?_
  refine Rv J J J (U_call J J (boxes_p [0, 2, 0, 2] (some 4) (by simp)) J) J J ?_
  refine Rv J J J (U_buildSliceF (by rfl) (by decide) J J J) J J ?_
  refine Rv J J J (U_call J J (boxes_p [4, 2, 1, 2] (some 4) (by simp)) J) J J ?_
  refine Rv J J J (U_call J J (sky_p (bxsQ [0, 2, 0, 2]) (bxsQ [4, 2, 1, 2])) J) J J ?_
  refine Rn J J J (U_storeAll J J J J J J) J ?_
  refine Rt J ?_
  refine W_ret J ?_
  exact retL (rlA J J J rl0) (by first | rfl | (simp only [packA]; rfl; first | done | rfl)) J
def twiceS : Sk := ⟨6, 3, [bxsQ [0, 3, 0, 2], bxsQ [2, 4, 0, 1, 2, 2, 1, 2], bxsQ [4, 2, 1, 2, 0, 6, 2, 3]]⟩
theorem twice_p  : Pure Try.prog 58 [] (.agg [i64 twiceS.h, i64 twiceS.z, landsA twiceS.ls none]) := by
  refine pure_of_body Try.func58 (c := body Try.f58) J (by simp [Try.ntmps58]) fun w0 Φ0 => ?_
  refine Wsr J J ?_
  refine Ra J J J (U_alloc) J J J ?_
  refine Rt J ?_
  refine Wsr J J ?_
  refine Rv J J J (U_buildSliceF (by rfl) (by decide) J J J) J J ?_
  refine Rv J J J (U_call J J (boxes_p [0, 3, 0, 2] (some 4) (by simp)) J) J J ?_
  refine Rv J J J (U_buildSliceF (by rfl) (by decide) J J J) J J ?_
  refine Rv J J J (U_call J J (boxes_p [4, 2, 1, 2, 0, 6, 2, 3] (some 8) (by simp)) J) J J ?_
  refine Rv J J J (U_call J J (sky_p (bxsQ [0, 3, 0, 2]) (bxsQ [4, 2, 1, 2, 0, 6, 2, 3])) J) J J ?_
  refine Rn J J J (U_storeAll J J J J J J) J ?_
  refine Rt J ?_
  refine W_ret J ?_
  exact retL (rlA J J J rl0) (by first | rfl | (simp only [packA]; rfl; first | done | rfl)) J
end Go.Proofs.Ythlolelbmhfdbaa
end

section
namespace Go.Proofs.Ythlolelbmhfdbaa
set_option maxRecDepth 20000
open Go.AE
theorem ge_of {α : Type} {l : List α} {i : Nat} {x : α} (h : i < l.length) (e : l[i]? = some x) : l[i] = x := by
  rw [List.getElem?_eq_getElem h] at e; exact Option.some.inj e
theorem of_mem {α : Type} {l : List (List α)} {i M : Nat} (e : (l.all fun x => decide (x.length ≤ M)) = true) (h : i < l.length) : l[i].length ≤ M := by
  have := List.all_eq_true.1 e _ (List.getElem_mem h); simpa using this
theorem works_p  : Pure Try.prog 17 [] (.bool true) := by
  refine pure_of_body Try.func17 (c := body Try.f17) J (by simp [Try.ntmps17]) fun w0 Φ0 => ?_
  refine Wsr J J ?_
  refine Rv J J J (U_assign J) J J ?_
  refine Rt J ?_
  refine Wsr J J ?_
  refine Rv J J J (U_call J J (good_p) J) J J ?_
  refine Ra J J J (U_alloc) J J J ?_
  refine Rn J J J (U_storeAll J J J J J J) J ?_
  refine Rt J ?_
  refine WfrN 0 J J (T' := [(1, .rop [i64 goodS.h, i64 goodS.z, .ros (goodS.ls.map boxesL) goodS.ls.length none] 0)]) (H' := []) ⟨⟨_, J, J⟩, trivial⟩ trivial ?_
  refine Wsr J J ?_
  refine Rv J J J (U_load3 J J J J J) J J ?_
  refine Rv J J J (U_call J J (ofA_p goodS none (by first | assumption | decide +kernel) (by first | assumption | decide +kernel) 1 1) J) J J ?_
  refine Rv J J J (U_move J) J J ?_
  refine Rv J J J (U_extract J J) J J ?_
  refine Rv J J J (U_extract J J) J J ?_
  refine Rv J J J (U_assign J) J J ?_
  refine Rv J J J (U_assign J) J J ?_
  refine Rt J ?_
  refine Wsr J J ?_
  refine Rv J J J (U_load3 J J J J J) J J ?_
  refine Rv J J J (U_call J J (ofA_p goodS none (by first | assumption | decide +kernel) (by first | assumption | decide +kernel) 6 0) J) J J ?_
  refine Rv J J J (U_move J) J J ?_
  refine Rv J J J (U_extract J J) J J ?_
  refine Rv J J J (U_extract J J) J J ?_
  refine Rv J J J (U_assign J) J J ?_
  refine Rv J J J (U_assign J) J J ?_
  refine Rt J ?_
  refine Wsr J J ?_
  refine Rv J J J (U_load3 J J J J J) J J ?_
  refine Rv J J J (U_call J J (onceA_p goodS none (by first | assumption | decide +kernel) (by first | assumption | decide +kernel)) J) J J ?_
  refine Rv J J J (U_call J J (gap_p) J) J J ?_
  refine Rv J J J (U_call J J (onceA_p gapS none (by first | assumption | decide +kernel) (by first | assumption | decide +kernel)) J) J J ?_
  refine Rv J J J (U_assign J) J J ?_
  refine Rv J J J (U_assign J) J J ?_
  refine Rt J ?_
  refine Wsr J J ?_
  refine Rv J J J (U_call J J (twice_p) J) J J ?_
  refine Rv J J J (U_call J J (fltA_p twiceS none (by first | assumption | decide +kernel) (by first | assumption | decide +kernel)) J) J J ?_
  refine Rv J J J (U_move J) J J ?_
  refine Rv J J J (U_extract J J) J J ?_
  refine Rv J J J (U_extract J J) J J ?_
  refine Rv J J J (U_extract J J) J J ?_
  refine Rv J J J (U_extract J J) J J ?_
  refine Rv J J J (U_assign J) J J ?_
  refine Rv J J J (U_assign J) J J ?_
  refine Rv J J J (U_assign J) J J ?_
  refine Rv J J J (U_assign J) J J ?_
  refine Rt J ?_
  refine Wsr J J ?_
  refine Rv J J J (U_load3 J J J J J) J J ?_
  refine Rv J J J (U_call J J (fltA_p goodS none (by first | assumption | decide +kernel) (by first | assumption | decide +kernel)) J) J J ?_
  refine Rv J J J (U_move J) J J ?_
  refine Rv J J J (U_extract J J) J J ?_
  refine Rv J J J (U_extract J J) J J ?_
  refine Rv J J J (U_extract J J) J J ?_
  refine Rv J J J (U_extract J J) J J ?_
  refine Rv J J J (U_assign J) J J ?_
  refine Rv J J J (U_assign J) J J ?_
  refine Rv J J J (U_assign J) J J ?_
  refine Rv J J J (U_assign J) J J ?_
  refine Rt J ?_
  refine Wsr J J ?_
  refine Rv J J J (U_load3 J J J J J) J J ?_
  refine Rv J J J (U_call J J (sizA_p goodS none (by first | assumption | decide +kernel) (by first | assumption | decide +kernel) 1) J) J J ?_
  refine Rv J J J (U_move J) J J ?_
  refine Rv J J J (U_extract J J) J J ?_
  refine Rv J J J (U_extract J J) J J ?_
  refine Rv J J J (U_assign J) J J ?_
  refine Rv J J J (U_assign J) J J ?_
  refine Rt J ?_
  refine Wsr J J ?_
  refine Rv J J J (U_call J J (gap_p) J) J J ?_
  refine Rv J J J (U_call J J (pieA_p gapS none (by first | assumption | decide +kernel) (by first | assumption | decide +kernel) 2) J) J J ?_
  refine Rv J J J (U_move J) J J ?_
  refine Rv J J J (U_extract J J) J J ?_
  refine Rv J J J (U_extract J J) J J ?_
  refine Rv J J J (U_assign J) J J ?_
  refine Rv J J J (U_assign J) J J ?_
  refine Rt J ?_
  refine Wsr J J ?_
  refine Rv J J J (U_load3 J J J J J) J J ?_
  refine Rv J J J (U_call J J (neiA_p goodS none (by first | assumption | decide +kernel) (by first | assumption | decide +kernel) 0) J) J J ?_
  refine Rv J J J (U_move J) J J ?_
  refine Rv J J J (U_extract J J) J J ?_
  refine Rv J J J (U_extract J J) J J ?_
  refine Rv J J J (U_assign J) J J ?_
  refine Rv J J J (U_assign J) J J ?_
  refine Rt J ?_
  refine Wsr J J ?_
  refine Rv J J J (U_load3 J J J J J) J J ?_
  refine Rv J J J (U_call J J (brdA_p goodS none (by first | assumption | decide +kernel) (by first | assumption | decide +kernel) 1 2) J) J J ?_
  refine Rv J J J (U_move J) J J ?_
  refine Rv J J J (U_extract J J) J J ?_
  refine Rv J J J (U_extract J J) J J ?_
  refine Rv J J J (U_assign J) J J ?_
  refine Rv J J J (U_assign J) J J ?_
  refine Rt J ?_
  refine W_seq J ?_
  refine Wdraw J (by kernel_rfl) (by kernel_rfl) ?_
  refine Dv J J J (U_load3 J J J J J) J J ?_
  refine Dv J J J (U_buildSliceF (by rfl) (by decide) J J J) J J ?_
  refine Dv J J J (U_call J J (of_p60 [0, 1, 2] (some 3)) J) J J ?_
  refine Dv J J J (U_call J J (chtA_p goodS none (by first | assumption | decide +kernel) (by first | assumption | decide +kernel) [0, 1, 2] (some 3) (by first | assumption | omega | exact Sz.le | (simp; done) | (simp; omega))) J) J J ?_
  refine Dv J J J (U_move J) J J ?_
  refine Dv J J J (U_extract J J) J J ?_
  refine Dv J J J (U_extract J J) J J ?_
  refine Dv J J J (U_assign J) J J ?_
  refine Dv J J J (U_assign J) J J ?_
  refine Dr.nil J ?_
  refine thenQ_n ?_
  refine W_seq J ?_
  refine Wdraw J (by kernel_rfl) (by kernel_rfl) ?_
  refine Dv J J J (U_load3 J J J J J) J J ?_
  refine Dv J J J (U_buildSliceF (by rfl) (by decide) J J J) J J ?_
  refine Dv J J J (U_call J J (of_p60 [2, 0, 0] (some 3)) J) J J ?_
  refine Dv J J J (U_call J J (chtA_p goodS none (by first | assumption | decide +kernel) (by first | assumption | decide +kernel) [2, 0, 0] (some 3) (by first | assumption | omega | exact Sz.le | (simp; done) | (simp; omega))) J) J J ?_
  refine Dv J J J (U_move J) J J ?_
  refine Dv J J J (U_extract J J) J J ?_
  refine Dv J J J (U_extract J J) J J ?_
  refine Dv J J J (U_assign J) J J ?_
  refine Dv J J J (U_assign J) J J ?_
  refine Dr.nil J ?_
  refine thenQ_n ?_
  refine Wsr J J ?_
  refine Rv J J J (U_load3 J J J J J) J J ?_
  refine Rv J J J (U_call J J (tinA_p goodS none (by first | assumption | decide +kernel) (by first | assumption | decide +kernel)) J) J J ?_
  refine Rv J J J (U_move J) J J ?_
  refine Rv J J J (U_extract J J) J J ?_
  refine Rv J J J (U_extract J J) J J ?_
  refine Rv J J J (U_assign J) J J ?_
  refine Rv J J J (U_assign J) J J ?_
  refine Rt J ?_
  refine W_seq J ?_
  refine Wdraw J (by kernel_rfl) (by kernel_rfl) ?_
  refine Dv J J J (U_load3 J J J J J) J J ?_
  refine Dv J J J (U_call J J (box_p 5 2 1 2) J) J J ?_
  refine Dv J J J (U_call J J (kinA_p goodS none (by first | assumption | decide +kernel) (by first | assumption | decide +kernel) 0 (⟨5, 2, 1, 2⟩ : Bx)) J) J J ?_
  refine Dv J J J (U_move J) J J ?_
  refine Dv J J J (U_extract J J) J J ?_
  refine Dv J J J (U_extract J J) J J ?_
  refine Dv J J J (U_assign J) J J ?_
  refine Dv J J J (U_assign J) J J ?_
  refine Dr.nil J ?_
  refine thenQ_n ?_
  refine Wsr J J ?_
  refine Rv J J J (U_load3 J J J J J) J J ?_
  refine Rv J J J (U_call J J (runA_p goodS none (by first | assumption | decide +kernel) (by first | assumption | decide +kernel) 2) J) J J ?_
  refine Rv J J J (U_move J) J J ?_
  refine Rv J J J (U_extract J J) J J ?_
  refine Rv J J J (U_extract J J) J J ?_
  refine Rv J J J (U_assign J) J J ?_
  refine Rv J J J (U_assign J) J J ?_
  refine Rt J ?_
  refine W_seq J ?_
  refine Wdraw J (by kernel_rfl) (by kernel_rfl) ?_
  refine Dv J J J (U_load3 J J J J J) J J ?_
  refine Dv J J J (U_call J J (box_p 5 1 0 3) J) J J ?_
  refine Dv J J J (U_call J J (givA_p goodS none (by first | assumption | decide +kernel) (by first | assumption | decide +kernel) 0 (⟨5, 1, 0, 3⟩ : Bx)) J) J J ?_
  refine Dv J J J (U_move J) J J ?_
  refine Dv J J J (U_extract J J) J J ?_
  refine Dv J J J (U_extract J J) J J ?_
  refine Da J J J (U_alloc) J J J J ?_
  refine Dn_ J J J (U_storeAll J J J J J J) J J ?_
  refine Dv J J J (U_assign J) J J ?_
  refine Dr.nil J ?_
  refine thenQ_n ?_
  refine WfrN 1 J J (T' := [(2, .ros ((ofR goodS 1 1).map i64) ((ofR goodS 1 1).length) none), (3, i64 (ofE goodS 1 1)), (5, i64 (ofE goodS 6 0)), (6, i64 (onceQ goodS)), (7, i64 (onceQ gapS)), (8, i64 ((fltR twiceS).1)), (9, i64 ((fltR twiceS).2.1)), (10, i64 ((fltR twiceS).2.2.1)), (11, i64 ((fltR twiceS).2.2.2)), (15, i64 ((fltR goodS).2.2.2)), (16, i64 (sizR goodS 1)), (17, i64 (opS goodS [1])), (18, i64 (pieR gapS 2)), (19, i64 (opS gapS [2])), (20, .ros ((neiR goodS 0).map i64) ((neiR goodS 0).length) none), (21, i64 (opS goodS [0])), (22, i64 (brdR goodS 1 2)), (23, i64 (brdE goodS 1 2)), (24, i64 (chtR goodS [0, 1, 2])), (25, i64 (chtE goodS [0, 1, 2])), (27, i64 (chtE goodS [2, 0, 0])), (28, .ros ((tinR goodS).map i64) ((tinR goodS).length) none), (29, i64 (chkS goodS)), (30, i64 (kinR goodS 0 (⟨5, 2, 1, 2⟩ : Bx))), (31, i64 (boxE goodS 0 (⟨5, 2, 1, 2⟩ : Bx))), (32, .ros ((runR goodS 2).flatMap bxC) ((runR goodS 2).length) none), (33, i64 (opS goodS [2])), (34, .rop [i64 ((gvR goodS 0 (⟨5, 1, 0, 3⟩ : Bx)).h), i64 ((gvR goodS 0 (⟨5, 1, 0, 3⟩ : Bx)).z), .ros (((gvR goodS 0 (⟨5, 1, 0, 3⟩ : Bx)).ls).map boxesL) (((gvR goodS 0 (⟨5, 1, 0, 3⟩ : Bx)).ls).length) none] 0), (35, i64 (boxE goodS 0 (⟨5, 1, 0, 3⟩ : Bx)))]) (H' := []) ⟨⟨_, J, J⟩, ⟨_, J, J⟩, ⟨_, J, J⟩, ⟨_, J, J⟩, ⟨_, J, J⟩, ⟨_, J, J⟩, ⟨_, J, J⟩, ⟨_, J, J⟩, ⟨_, J, J⟩, ⟨_, J, J⟩, ⟨_, J, J⟩, ⟨_, J, J⟩, ⟨_, J, J⟩, ⟨_, J, J⟩, ⟨_, J, J⟩, ⟨_, J, J⟩, ⟨_, J, J⟩, ⟨_, J, J⟩, ⟨_, J, J⟩, ⟨_, J, J⟩, ⟨_, J, J⟩, ⟨_, J, J⟩, ⟨_, J, J⟩, ⟨_, J, J⟩, ⟨_, J, J⟩, ⟨_, J, J⟩, ⟨_, J, J⟩, ⟨_, J, J⟩, ⟨_, J, J⟩, trivial⟩ trivial ?_
  refine W_seq J ?_
  refine Wsr J J ?_
  refine Rv J J J (U_move J) J J ?_
  refine Rv J J J (U_neqE (a := (ofE goodS 1 1)) (b := 0) J J (by decide +kernel)) J J ?_
  refine Rv J J J (U_move J) J J ?_
  refine Rv J J J (U_move J) J J ?_
  refine Rv J J J (U_neqE (a := (ofE goodS 6 0)) (b := 3) J J (by decide +kernel)) J J ?_
  refine Rv J J J (U_pick_f J J) J J ?_
  refine Rv J J J (U_move J) J J ?_
  refine Rv J J J (U_move J) J J ?_
  refine Rv J J J (U_neqE (a := (onceQ goodS)) (b := 0) J J (by decide +kernel)) J J ?_
  refine Rv J J J (U_pick_f J J) J J ?_
  refine Rv J J J (U_move J) J J ?_
  refine Rv J J J (U_move J) J J ?_
  refine Rv J J J (U_neqE (a := (onceQ gapS)) (b := 19) J J (by decide +kernel)) J J ?_
  refine Rv J J J (U_pick_f J J) J J ?_
  refine Rv J J J (U_move J) J J ?_
  refine Rv J J J (U_move J) J J ?_
  refine Rv J J J (U_neqE (a := ((fltR twiceS).2.2.2)) (b := 0) J J (by decide +kernel)) J J ?_
  refine Rv J J J (U_pick_f J J) J J ?_
  refine Rv J J J (U_move J) J J ?_
  refine Rv J J J (U_move J) J J ?_
  refine Rv J J J (U_neqE (a := ((fltR goodS).2.2.2)) (b := 5) J J (by decide +kernel)) J J ?_
  refine Rv J J J (U_pick_f J J) J J ?_
  refine Rv J J J (U_move J) J J ?_
  refine Rv J J J (U_move J) J J ?_
  refine Rv J J J (U_neqE (a := (opS goodS [1])) (b := 0) J J (by decide +kernel)) J J ?_
  refine Rv J J J (U_pick_f J J) J J ?_
  refine Rv J J J (U_move J) J J ?_
  refine Rv J J J (U_move J) J J ?_
  refine Rv J J J (U_neqE (a := (opS gapS [2])) (b := 0) J J (by decide +kernel)) J J ?_
  refine Rv J J J (U_pick_f J J) J J ?_
  refine Rv J J J (U_move J) J J ?_
  refine Rv J J J (U_move J) J J ?_
  refine Rv J J J (U_neqE (a := (opS goodS [0])) (b := 0) J J (by decide +kernel)) J J ?_
  refine Rv J J J (U_pick_f J J) J J ?_
  refine Rv J J J (U_move J) J J ?_
  refine Rv J J J (U_move J) J J ?_
  refine Rv J J J (U_neqE (a := (brdE goodS 1 2)) (b := 0) J J (by decide +kernel)) J J ?_
  refine Rv J J J (U_pick_f J J) J J ?_
  refine Rv J J J (U_move J) J J ?_
  refine Rv J J J (U_move J) J J ?_
  refine Rv J J J (U_neqE (a := (chtE goodS [0, 1, 2])) (b := 0) J J (by decide +kernel)) J J ?_
  refine Rv J J J (U_pick_f J J) J J ?_
  refine Rv J J J (U_move J) J J ?_
  refine Rv J J J (U_move J) J J ?_
  refine Rv J J J (U_neqE (a := (chtE goodS [2, 0, 0])) (b := 19) J J (by decide +kernel)) J J ?_
  refine Rv J J J (U_pick_f J J) J J ?_
  refine Rv J J J (U_move J) J J ?_
  refine Rv J J J (U_move J) J J ?_
  refine Rv J J J (U_neqE (a := (chkS goodS)) (b := 0) J J (by decide +kernel)) J J ?_
  refine Rv J J J (U_pick_f J J) J J ?_
  refine Rv J J J (U_move J) J J ?_
  refine Rv J J J (U_move J) J J ?_
  refine Rv J J J (U_neqE (a := (boxE goodS 0 (⟨5, 2, 1, 2⟩ : Bx))) (b := 0) J J (by decide +kernel)) J J ?_
  refine Rv J J J (U_pick_f J J) J J ?_
  refine Rv J J J (U_move J) J J ?_
  refine Rv J J J (U_move J) J J ?_
  refine Rv J J J (U_neqE (a := (opS goodS [2])) (b := 0) J J (by decide +kernel)) J J ?_
  refine Rv J J J (U_pick_f J J) J J ?_
  refine Rv J J J (U_move J) J J ?_
  refine Rv J J J (U_move J) J J ?_
  refine Rv J J J (U_neqE (a := (boxE goodS 0 (⟨5, 1, 0, 3⟩ : Bx))) (b := 0) J J (by decide +kernel)) J J ?_
  refine Rv J J J (U_pick_f J J) J J ?_
  refine Rv J J J (U_move J) J J ?_
  refine Rv J J J (U_fieldAddrR J) J J ?_
  refine Rv J J J (U_load1 J J J) J J ?_
  refine Rv J J J (U_lenOf J len_ros) J J ?_
  refine Rv J J J (U_neqE (a := ((((gvR goodS 0 (⟨5, 1, 0, 3⟩ : Bx)).ls).length : Nat) : Int)) (b := 3) J J (by decide +kernel)) J J ?_
  refine Rv J J J (U_pick_f J J) J J ?_
  refine Rt J ?_
  refine Wcond J J (fun h => nomatch h) (fun _ => ?_)
  refine W_skip J ?_
  refine thenQ_n ?_
  refine W_seq J ?_
  refine Wdraw J (by kernel_rfl) (by kernel_rfl) ?_
  refine Dv J J J (U_move J) J J ?_
  refine Dv J J J (U_buildSliceF (by rfl) (by decide) J J J) J J ?_
  refine Dv J J J (U_call J J (of_p60 [0] (some 1)) J) J J ?_
  refine Dv J J J (U_call J J (intsT_p (ofR goodS 1 1) [0] none (some 1) (by first | assumption | omega | (simp; done) | decide +kernel | exact of_mem (by decide +kernel) _) (by first | assumption | omega | (simp; done) | decide +kernel | exact of_mem (by decide +kernel) _) (by first | decide +kernel | exact ge_of _ (by decide +kernel))) J) J J ?_
  refine Dv J J J (U_move J) J J ?_
  refine Dv J J J (U_move J) J J ?_
  refine Dv J J J (U_eqlE (a := ((fltR twiceS).1)) (b := 2) J J (by decide +kernel)) J J ?_
  refine Dv J J J (U_pick_t J J) J J ?_
  refine Dv J J J (U_move J) J J ?_
  refine Dv J J J (U_move J) J J ?_
  refine Dv J J J (U_eqlE (a := ((fltR twiceS).2.1)) (b := 0) J J (by decide +kernel)) J J ?_
  refine Dv J J J (U_pick_t J J) J J ?_
  refine Dv J J J (U_move J) J J ?_
  refine Dv J J J (U_move J) J J ?_
  refine Dv J J J (U_eqlE (a := ((fltR twiceS).2.2.1)) (b := 2) J J (by decide +kernel)) J J ?_
  refine Dv J J J (U_pick_t J J) J J ?_
  refine Dv J J J (U_move J) J J ?_
  refine Dv J J J (U_move J) J J ?_
  refine Dv J J J (U_eqlE (a := (sizR goodS 1)) (b := 6) J J (by decide +kernel)) J J ?_
  refine Dv J J J (U_pick_t J J) J J ?_
  refine Dv J J J (U_move J) J J ?_
  refine Dv J J J (U_move J) J J ?_
  refine Dv J J J (U_eqlE (a := (pieR gapS 2)) (b := 1) J J (by decide +kernel)) J J ?_
  refine Dv J J J (U_pick_t J J) J J ?_
  refine Dv J J J (U_move J) J J ?_
  refine Dv J J J (U_move J) J J ?_
  refine Dv J J J (U_buildSliceF (by rfl) (by decide) J J J) J J ?_
  refine Dv J J J (U_call J J (of_p60 [1, 2] (some 2)) J) J J ?_
  refine Dv J J J (U_call J J (intsT_p (neiR goodS 0) [1, 2] none (some 2) (by first | assumption | omega | (simp; done) | decide +kernel | exact of_mem (by decide +kernel) _) (by first | assumption | omega | (simp; done) | decide +kernel | exact of_mem (by decide +kernel) _) (by first | decide +kernel | exact ge_of _ (by decide +kernel))) J) J J ?_
  refine Dv J J J (U_pick_t J J) J J ?_
  refine Dv J J J (U_move J) J J ?_
  refine Dv J J J (U_move J) J J ?_
  refine Dv J J J (U_eqlE (a := (brdR goodS 1 2)) (b := 5) J J (by decide +kernel)) J J ?_
  refine Dv J J J (U_pick_t J J) J J ?_
  refine Dv J J J (U_move J) J J ?_
  refine Dv J J J (U_move J) J J ?_
  refine Dv J J J (U_eqlE (a := (chtR goodS [0, 1, 2])) (b := 3) J J (by decide +kernel)) J J ?_
  refine Dv J J J (U_pick_t J J) J J ?_
  refine Dv J J J (U_move J) J J ?_
  refine Dv J J J (U_move J) J J ?_
  refine Dv J J J (U_buildSliceF (by rfl) (by decide) J J J) J J ?_
  refine Dv J J J (U_call J J (of_p60 [0, 1, 2] (some 3)) J) J J ?_
  refine Dv J J J (U_call J J (intsT_p (tinR goodS) [0, 1, 2] none (some 3) (by first | assumption | omega | (simp; done) | decide +kernel | exact of_mem (by decide +kernel) _) (by first | assumption | omega | (simp; done) | decide +kernel | exact of_mem (by decide +kernel) _) (by first | decide +kernel | exact ge_of _ (by decide +kernel))) J) J J ?_
  refine Dv J J J (U_pick_t J J) J J ?_
  refine Dv J J J (U_move J) J J ?_
  refine Dv J J J (U_move J) J J ?_
  refine Dv J J J (U_eqlE (a := (kinR goodS 0 (⟨5, 2, 1, 2⟩ : Bx))) (b := 1) J J (by decide +kernel)) J J ?_
  refine Dv J J J (U_pick_t J J) J J ?_
  refine Dv J J J (U_move J) J J ?_
  refine Dv J J J (U_move J) J J ?_
  refine Dv J J J (U_buildSliceF (by rfl) (by decide) J J J) J J ?_
  refine Dv J J J (U_call J J (boxes_p [4, 2, 1, 2, 0, 6, 2, 3] (some 8) (by simp)) J) J J ?_
  refine Dv J J J (U_call J J (samBT_p (runR goodS 2) (bxsQ [4, 2, 1, 2, 0, 6, 2, 3]) none none (by first | assumption | omega | (simp; done) | decide +kernel | exact of_mem (by decide +kernel) _) (by first | assumption | omega | (simp; done) | decide +kernel | exact of_mem (by decide +kernel) _) (by first | decide +kernel | exact ge_of _ (by decide +kernel))) J) J J ?_
  refine Dv J J J (U_pick_t J J) J J ?_
  refine Dv J J J (U_move J) J J ?_
  refine Dv J J J (U_fieldAddrR J) J J ?_
  refine Dv J J J (U_load1 J J J) J J ?_
  have hx1 : 0 < ((gvR goodS 0 (⟨5, 1, 0, 3⟩ : Bx)).ls).length := by decide +kernel
  refine Dv J J J (U_indexR (j := 0) J J J hx1) J J ?_
  refine Dv J J J (U_load1 J J (getM hx1)) J J ?_
  refine Dv J J J (U_buildSliceF (by rfl) (by decide) J J J) J J ?_
  refine Dv J J J (U_call J J (boxes_p [5, 3, 0, 1, 5, 3, 1, 2, 5, 1, 2, 3] (some 12) (by simp)) J) J J ?_
  refine Dv J J J (U_call J J (samBT_p (((gvR goodS 0 (⟨5, 1, 0, 3⟩ : Bx)).ls)[0]) (bxsQ [5, 3, 0, 1, 5, 3, 1, 2, 5, 1, 2, 3]) none none (by first | assumption | omega | (simp; done) | decide +kernel | exact of_mem (by decide +kernel) _) (by first | assumption | omega | (simp; done) | decide +kernel | exact of_mem (by decide +kernel) _) (by first | decide +kernel | exact ge_of _ (by decide +kernel))) J) J J ?_
  refine Dv J J J (U_pick_t J J) J J ?_
  refine Dv J J J (U_assign J) J J ?_
  refine Dr.nil J ?_
  refine thenQ_n ?_
  refine W_ret J ?_
  exact retL (rlT J rl0) J J
end Go.Proofs.Ythlolelbmhfdbaa
end

section
namespace Go.Proofs.Ythlolelbmhfdbaa
set_option maxRecDepth 20000
open Go.AE
class Sz {α : Type} (l : List α) : Prop where
  le : l.length ≤ 1000000
class Szs (l : List (List Bx)) : Prop where
  le : ∀ x ∈ l, x.length ≤ 1000000
theorem szM {n k : Nat} (h : n ≤ k) (h2 : k ≤ 1152) : n ≤ 1000000 := by omega
theorem opS_vs {s : Sk} {l : List Int} (h : opS s l = 0) : VS s s.h.toNat s.z.toNat := by
  obtain ⟨H, Z, ls, rfl, hc, hv, _⟩ := opS_ok h
  exact hv
theorem VS.hz {s : Sk} {H Z : Nat} (h : VS s H Z) : Z * H ≤ 1152 := Nat.mul_le_mul h.z1.2 h.h1.2
theorem chk_vs {s : Sk} (h : chkS s = 0) : VS s s.h.toNat s.z.toNat := by
  obtain ⟨H, Z, hv⟩ := vs_of h
  have e1 := hv.h; have e2 := hv.z
  rw [show s.h.toNat = H by omega, show s.z.toNat = Z by omega]; exact hv
instance {s : Sk} {h z : Int} : Sz (ofR s h z) := ⟨by
  unfold ofR; split
  · rename_i hE
    have hc : chkS s = 0 := by
      unfold ofE at hE; split at hE
      · rename_i h1; exact absurd hE h1
      · rename_i h1; exact Decidable.not_not.1 h1
    exact szM ofQ_len (Nat.le_trans (chk_vs hc).ln (by decide))
  · simp⟩
instance {s : Sk} {a : Int} : Sz (neiR s a) := ⟨by
  unfold neiR; split
  · rename_i hE; exact szM neiK_len (Nat.le_trans (opS_vs hE).ln (by decide))
  · simp⟩
instance {s : Sk} : Sz (tinR s) := ⟨by
  unfold tinR; split
  · rename_i hc; rw [tin_len ntr_ok, ntrK_len]; exact szM (chk_vs hc).ln (by decide)
  · simp⟩
instance {s : Sk} {a : Int} : Sz (runR s a) := ⟨by
  unfold runR; split
  · rename_i hE; exact szM (rnsK_len (opS_vs hE).h1.1) (opS_vs hE).hz
  · simp⟩
theorem boxE_vs {s : Sk} {a : Int} {b : Bx} (h : boxE s a b = 0) : VS s s.h.toNat s.z.toNat := by
  obtain ⟨H, Z, ls, m, rfl, hc, hv, _⟩ := boxE_ok h
  exact hv
instance {s : Sk} {a : Int} {b : Bx} : Sz (gvR s a b).ls := ⟨by
  unfold gvR; split
  · rename_i hE; rw [givQ, givK_len]; exact szM (boxE_vs hE).ln (by decide)
  · simp⟩
instance {s : Sk} {a : Int} {b : Bx} : Szs (gvR s a b).ls := ⟨by
  unfold gvR; split
  · rename_i hE
    intro x hx
    simp only [givQ, givK, List.mem_map] at hx
    obtain ⟨j, _, rfl⟩ := hx
    exact szM (rnsK_len (boxE_vs hE).h1.1) (boxE_vs hE).hz
  · intro x hx; cases hx⟩
end Go.Proofs.Ythlolelbmhfdbaa
end

section
namespace Go.Proofs.Ythlolelbmhfdbaa
open Go Go.AE Go.Proofs
abbrev I64 (n : Int) : Prop := IntKind.i64.min ≤ n ∧ n ≤ IntKind.i64.max
theorem rd3 : Reads Try.prog 3 fun vs => ∃ n, I64 n ∧ vs = [i64 n] := Reads.int Try.underlying3
theorem all_map {α : Type} {f : α → List AV} {Q : α → Prop} : ∀ {ls : List (List AV)}, (∀ l ∈ ls, ∃ x, Q x ∧ l = f x) → ∃ xs : List α, (∀ x ∈ xs, Q x) ∧ ls = xs.map f
  | [], _ => ⟨[], by simp, rfl⟩
  | l :: ls, h => by
    obtain ⟨x, hx, rfl⟩ := h l List.mem_cons_self
    obtain ⟨xs, h1, rfl⟩ := all_map fun l hl => h l (List.mem_cons_of_mem _ hl)
    exact ⟨x :: xs, by simpa using ⟨hx, h1⟩, rfl⟩
theorem flat_one {α : Type} (f : α → AV) (l : List α) : (l.map fun n => [f n]).flatten = l.map f := by
  induction l with
  | nil => rfl
  | cons a l ih => simp [ih]
theorem rd27 : Reads Try.prog 27 fun vs => ∃ l : List Int, ((∀ e ∈ l, I64 e) ∧ l.length ≤ maxLen) ∧ vs = [intsA l none] :=
  (Reads.slice Try.underlying27 (z := 1) (by kernel_rfl) (by decide) rd3).mono fun vs ⟨ls, h, hn, e⟩ => by
    obtain ⟨xs, h1, rfl⟩ := all_map h
    exact ⟨xs, ⟨h1, by simpa using hn⟩, by rw [e, flat_one, List.length_map]⟩
abbrev Bx64 (b : Bx) : Prop := I64 b.fr ∧ I64 b.wd ∧ I64 b.lo ∧ I64 b.hi
theorem rd44 : Reads Try.prog 44 fun vs => ∃ b : Bx, Bx64 b ∧ vs = bxC b :=
  (Reads.struct Try.underlying44 (As := [_, _, _, _]) ⟨by kernel_rfl, rd3, by kernel_rfl, rd3, by kernel_rfl, rd3, by kernel_rfl, rd3, by kernel_rfl, rfl⟩).mono fun vs ⟨ls, h, e⟩ => by
    obtain ⟨_, _, rfl, ⟨a, ha, rfl⟩, _, _, rfl, ⟨b, hb, rfl⟩, _, _, rfl, ⟨c, hc, rfl⟩, _, _, rfl, ⟨d, hd, rfl⟩, rfl⟩ := h
    exact ⟨⟨a, b, c, d⟩, ⟨ha, hb, hc, hd⟩, by rw [e]; rfl⟩
theorem rd46 : Reads Try.prog 46 fun vs => ∃ l : List Bx, ((∀ e ∈ l, Bx64 e) ∧ l.length ≤ maxLen) ∧ vs = [boxesL l] :=
  (Reads.slice Try.underlying46 (z := 4) (by kernel_rfl) (by decide) rd44).mono fun vs ⟨ls, h, hn, e⟩ => by
    obtain ⟨xs, h1, rfl⟩ := all_map h
    exact ⟨xs, ⟨h1, by simpa using hn⟩, by rw [e, List.length_map, boxesL, List.flatMap]⟩
theorem rd22 : Reads Try.prog 22 fun vs => ∃ l : List (List Bx), ((∀ e ∈ l, (∀ x ∈ e, Bx64 x) ∧ e.length ≤ maxLen) ∧ l.length ≤ maxLen) ∧ vs = [landsA l none] :=
  (Reads.slice Try.underlying22 (z := 1) (by kernel_rfl) (by decide) rd46).mono fun vs ⟨ls, h, hn, e⟩ => by
    obtain ⟨xs, h1, rfl⟩ := all_map h
    exact ⟨xs, ⟨h1, by simpa using hn⟩, by rw [e, flat_one, List.length_map]⟩
theorem inp3 : ArgR Try.prog 3 fun a => ∃ n, I64 n ∧ a = i64 n := ArgR.int Try.underlying3
theorem inp4 : ArgR Try.prog 4 fun a => ∃ b, a = .bool b := ArgR.bool Try.underlying4
theorem inp5a : ArgR Try.prog 5 fun a => ∃ n, (0 ≤ n ∧ n ≤ 255) ∧ a = .int .u8 n := ArgR.int Try.underlying5
theorem inp5 : ArgR Try.prog 5 fun a => ∃ n : Nat, n < 256 ∧ a = .int .u8 (n : Nat) :=
  inp5a.mono fun a ⟨n, h, e⟩ => ⟨n.toNat, by omega, by rw [e, Int.toNat_of_nonneg h.1]⟩
theorem inp27 : ArgR Try.prog 27 fun a => ∃ l : List Int, ((∀ e ∈ l, I64 e) ∧ l.length ≤ maxLen) ∧ a = intsA l none :=
  ArgR.slice Try.underlying27 (rd27.mono fun _ ⟨l, h, e⟩ => ⟨_, ⟨l, h, rfl⟩, e⟩)
theorem inp44 : ArgR Try.prog 44 fun a => ∃ b : Bx, Bx64 b ∧ a = bxA b :=
  (ArgR.struct Try.underlying44 rd44).mono fun v ⟨vs, ⟨b, hb, e⟩, e'⟩ => ⟨b, hb, by rw [e', e]; rfl⟩
theorem inp24 : ArgR Try.prog 24 fun a => ∃ s : Sk, ((I64 s.h ∧ I64 s.z) ∧ (∀ e ∈ s.ls, (∀ x ∈ e, Bx64 x) ∧ e.length ≤ maxLen) ∧ s.ls.length ≤ maxLen) ∧ a = .agg [i64 s.h, i64 s.z, landsA s.ls none] :=
  (ArgR.struct Try.underlying24 (Reads.struct Try.underlying24 (As := [_, _, _]) ⟨by kernel_rfl, rd3, by kernel_rfl, rd3, by kernel_rfl, rd22, by kernel_rfl, rfl⟩)).mono fun v ⟨vs, ⟨ls, h, e⟩, e'⟩ => by
    obtain ⟨_, _, rfl, ⟨a, ha, rfl⟩, _, _, rfl, ⟨b, hb, rfl⟩, _, _, rfl, ⟨l, hl, rfl⟩, rfl⟩ := h
    exact ⟨⟨a, b, l⟩, ⟨⟨ha, hb⟩, hl⟩, by rw [e', e]; rfl⟩
end Go.Proofs.Ythlolelbmhfdbaa
end
