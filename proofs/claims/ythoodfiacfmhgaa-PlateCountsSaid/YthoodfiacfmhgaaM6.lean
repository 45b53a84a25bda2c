import Derived.Test.YthoodfiacfmhgaaM5
import Derived.Test.YthoodfiacfmhgaaM4
set_option linter.all false
section
/- Contracts of package plate: plates, moved by their spots. -/
namespace Go.Proofs.Ythoodfiacfmhgaa
set_option maxRecDepth 20000
open Go.AE
/-- The dots that were moved, of some spots. -/
def mvS (N : Nat) (m : Int) (P : Spots) (o : List Int) : List Int := P.foldl (fun out e => out.set ((toS N m e.1).1 * N + (toS N m e.1).2).toNat e.2.1) o
theorem mvS_snoc {N : Nat} {m : Int} {P : Spots} {e : (Int × Int) × Int × Nat} {o : List Int} : mvS N m (P ++ [e]) o = (mvS N m P o).set ((toS N m e.1).1 * N + (toS N m e.1).2).toNat e.2.1 := by simp [mvS]
theorem mvS_len {N : Nat} {m : Int} {P : Spots} {o : List Int} : (mvS N m P o).length = o.length := foldset_len _ _ P o
theorem spotsQ_ok {N : Nat} {ds : List Int} : MOk ds.length (spotsQ N ds) := (spotsR_ok ds.length).1.filter _
theorem spotsQ_mem {N : Nat} {ds : List Int} {e : (Int × Int) × Int × Nat} (h : e ∈ spotsQ N ds) : ∃ i, i < ds.length ∧ e = spotI N ds i := by
  obtain ⟨j, hj, rfl⟩ := List.mem_map.1 (List.mem_filter.1 h).1
  exact ⟨j, List.mem_range.1 hj, rfl⟩
theorem toS_cases {P : Int → Prop} (h : P 0 ∧ P 1 ∧ P 2 ∧ P 3 ∧ P 4 ∧ P 5 ∧ P 6 ∧ P 7) {m : Int} (hm : 0 ≤ m ∧ m < 8) : P m := by
  have : m = 0 ∨ m = 1 ∨ m = 2 ∨ m = 3 ∨ m = 4 ∨ m = 5 ∨ m = 6 ∨ m = 7 := by omega
  obtain ⟨h0, h1, h2, h3, h4, h5, h6, h7⟩ := h
  rcases this with rfl | rfl | rfl | rfl | rfl | rfl | rfl | rfl <;> assumption
theorem to0 (n : Int) (q : Int × Int) : toS n 0 q = (q.1, q.2) := rfl
theorem to1 (n : Int) (q : Int × Int) : toS n 1 q = (q.2, n - 1 - q.1) := rfl
theorem to2 (n : Int) (q : Int × Int) : toS n 2 q = (n - 1 - q.1, n - 1 - q.2) := rfl
theorem to3 (n : Int) (q : Int × Int) : toS n 3 q = (n - 1 - q.2, n - 1 - (n - 1 - q.1)) := rfl
theorem to4 (n : Int) (q : Int × Int) : toS n 4 q = (q.1, n - 1 - q.2) := rfl
theorem to5 (n : Int) (q : Int × Int) : toS n 5 q = (n - 1 - q.2, n - 1 - q.1) := rfl
theorem to6 (n : Int) (q : Int × Int) : toS n 6 q = (n - 1 - q.1, n - 1 - (n - 1 - q.2)) := rfl
theorem to7 (n : Int) (q : Int × Int) : toS n 7 q = (n - 1 - (n - 1 - q.2), n - 1 - (n - 1 - q.1)) := rfl
/-- A motion behind one moves spots as both do. -/
theorem toS_aft (n : Int) (q : Int × Int) {a b : Int} (ha : 0 ≤ a ∧ a < 8) (hb : 0 ≤ b ∧ b < 8) : toS n (aft a b) q = toS n b (toS n a q) := by
  refine toS_cases (P := fun a => toS n (aft a b) q = toS n b (toS n a q)) ?_ ha
  refine ⟨?_, ?_, ?_, ?_, ?_, ?_, ?_, ?_⟩ <;>
    (refine toS_cases (P := fun b => toS n (aft _ b) q = toS n b (toS n _ q)) ?_ hb
     refine ⟨?_, ?_, ?_, ?_, ?_, ?_, ?_, ?_⟩ <;>
      (simp only [aft, Int.reduceLE, if_true, if_false, Int.reduceMod, Int.reduceDiv, Int.reduceAdd, Int.reduceSub, Int.reduceMul, Int.zero_add, Int.add_zero, Int.sub_zero, Int.zero_mul, Int.emod_self, to0, to1, to2, to3, to4, to5, to6, to7, Prod.mk.injEq]
       first | done | (refine ⟨?_, ?_⟩ <;> first | trivial | omega)))
theorem inv_in {m : Int} (hm : 0 ≤ m ∧ m < 8) : 0 ≤ invM m ∧ invM m < 8 := by unfold invM; split <;> omega
theorem aft_inv : (motions.all fun m => decide (aft m (invM m) = 0 ∧ aft (invM m) m = 0)) = true := by decide +kernel
theorem aft_inv1 {m : Int} (hm : 0 ≤ m ∧ m < 8) : aft m (invM m) = 0 ∧ aft (invM m) m = 0 := by
  have := List.all_eq_true.1 aft_inv m (mo_mem hm); simpa using this
theorem toS_inv (n : Int) (q : Int × Int) {m : Int} (hm : 0 ≤ m ∧ m < 8) : toS n (invM m) (toS n m q) = q ∧ toS n m (toS n (invM m) q) = q := by
  rw [← toS_aft n q hm (inv_in hm), ← toS_aft n q (inv_in hm) hm, (aft_inv1 hm).1, (aft_inv1 hm).2]; exact ⟨rfl, rfl⟩
/-- A spot's number. -/
def numS (N : Nat) (q : Int × Int) : Nat := (q.1 * N + q.2).toNat
theorem num_spot {N : Nat} (h1 : 1 ≤ N) {q : Int × Int} (h : InS N q) : (((numS N q / N : Nat) : Int), ((numS N q % N : Nat) : Int)) = q := by
  obtain ⟨a, b⟩ := q
  obtain ⟨x, rfl⟩ : ∃ x : Nat, a = x := ⟨a.toNat, by have := h.1; simp only at this; omega⟩
  obtain ⟨y, rfl⟩ : ∃ y : Nat, b = y := ⟨b.toNat, by have := h.2.2.1; simp only at this; omega⟩
  have hy : y < N := by have := h.2.2.2; simp only at this; omega
  have e : numS N ((x : Int), (y : Int)) = x * N + y := by
    unfold numS; simp only
    have : ((x : Int) * N + y) = ((x * N + y : Nat) : Int) := by push_cast; rfl
    rw [this, Int.toNat_natCast]
  rw [e]
  have e1 : (x * N + y) / N = x := by rw [Nat.add_comm, Nat.add_mul_div_right _ _ (by omega), Nat.div_eq_of_lt hy, Nat.zero_add]
  have e2 : (x * N + y) % N = y := by rw [Nat.add_comm, Nat.add_mul_mod_self_right, Nat.mod_eq_of_lt hy]
  rw [e1, e2]
theorem spot_num {N : Nat} {i : Nat} : numS N (((i / N : Nat) : Int), ((i % N : Nat) : Int)) = i := by
  unfold numS; simp only
  have : (((i / N : Nat) : Int) * N + ((i % N : Nat) : Int)) = ((N * (i / N) + i % N : Nat) : Int) := by push_cast; rw [Int.mul_comm]
  rw [this, Int.toNat_natCast, Nat.div_add_mod]
theorem posN_num {N : Nat} {m : Int} {i : Nat} : posN N m i = numS N (toS N m (((i / N : Nat) : Int), ((i % N : Nat) : Int))) := rfl
theorem posN_inv {N : Nat} (h1 : 1 ≤ N) {m : Int} (hm : 0 ≤ m ∧ m < 8) {i : Nat} (hi : i < N * N) : posN N (invM m) (posN N m i) = i ∧ posN N m (posN N (invM m) i) = i := by
  have hin := in_sq h1 hi
  constructor
  · rw [posN_num (m := invM m), posN_num (m := m), num_spot h1 (toS_in hin), (toS_inv N _ hm).1, spot_num]
  · rw [posN_num (m := m), posN_num (m := invM m), num_spot h1 (toS_in hin), (toS_inv N _ hm).2, spot_num]
theorem posN_aft {N : Nat} (h1 : 1 ≤ N) {a b : Int} (ha : 0 ≤ a ∧ a < 8) (hb : 0 ≤ b ∧ b < 8) {i : Nat} (hi : i < N * N) : posN N (aft a b) i = posN N b (posN N a i) := by
  rw [posN_num (m := b), posN_num (m := a), num_spot h1 (toS_in (in_sq h1 hi)), ← toS_aft N _ ha hb, ← posN_num]
/-- Numbers that are put in different places of a list. -/
theorem foldset_get {α : Type} (f : α → Nat) (g : α → Int) : ∀ (l : List α) (o : List Int) (j : Nat), (∀ x ∈ l, f x ≠ j) → (l.foldl (fun out i => out.set (f i) (g i)) o)[j]? = o[j]?
  | [], _, _, _ => rfl
  | a :: l, o, j, h => by
    rw [List.foldl_cons, foldset_get f g l _ j fun x hx => h x (List.mem_cons_of_mem _ hx), List.getElem?_set_ne (h a (by simp))]
theorem foldset_hit {α : Type} (f : α → Nat) (g : α → Int) : ∀ (l : List α) (o : List Int) (a : α), a ∈ l → (∀ x ∈ l, f x = f a → g x = g a) → f a < o.length → (l.foldl (fun out i => out.set (f i) (g i)) o)[f a]? = some (g a)
  | [], _, _, h, _, _ => by simp at h
  | b :: l, o, a, h, h2, h3 => by
    rw [List.foldl_cons]
    by_cases hl : ∃ x ∈ l, f x = f a
    · obtain ⟨x, hx, he⟩ := hl
      have := foldset_hit f g l (o.set (f b) (g b)) x hx (fun y hy e => by rw [h2 y (List.mem_cons_of_mem _ hy) (e.trans he), h2 x (List.mem_cons_of_mem _ hx) he]) (by rw [he]; simpa using h3)
      rw [he] at this; rw [this, h2 x (List.mem_cons_of_mem _ hx) he]
    · have hn : ∀ x ∈ l, f x ≠ f a := fun x hx e => hl ⟨x, hx, e⟩
      rw [foldset_get f g l _ _ hn]
      have hb : a = b := by
        rcases List.mem_cons.1 h with h | h
        · exact h
        · exact absurd rfl (hn a h)
      subst hb
      rw [List.getElem?_set_self h3]
theorem movD_get {N : Nat} (h1 : 1 ≤ N) (h2 : N ≤ 8) {m : Int} (hm : 0 ≤ m ∧ m < 8) {ds : List Int} (hl : ds.length = N * N) {i : Nat} (hi : i < N * N) : (movD N m ds)[posN N m i]? = some (ds.getD i 0) := by
  refine foldset_hit (posN N m) (fun i => ds.getD i 0) (List.range ds.length) _ i (by simp; omega) (fun x hx e => ?_) (by simp [hl]; exact posN_lt h1 h2 hi)
  have hx' : x < N * N := by simpa [hl] using hx
  have := (posN_inv h1 hm hx').1
  rw [e, (posN_inv h1 hm hi).1] at this
  rw [this]
/-- Two lists of moved dots are the same if they show the same dots. -/
theorem mov_ext {N : Nat} (h1 : 1 ≤ N) (h2 : N ≤ 8) {m : Int} (hm : 0 ≤ m ∧ m < 8) {a b : List Int} (ha : a.length = N * N) (hb : b.length = N * N) (h : ∀ i, i < N * N → a[posN N m i]? = b[posN N m i]?) : a = b := by
  apply List.ext_getElem?
  intro j
  by_cases hj : j < N * N
  · have := h (posN N (invM m) j) (posN_lt h1 h2 hj)
    rwa [(posN_inv h1 hm hj).2] at this
  · rw [List.getElem?_eq_none (by omega), List.getElem?_eq_none (by omega)]
theorem mvS_perm {N : Nat} (h1 : 1 ≤ N) (h2 : N ≤ 8) {m : Int} (hm : 0 ≤ m ∧ m < 8) {ds : List Int} (hl : ds.length = N * N) {P : Spots} (hp : P.Perm (spotsQ N ds)) : mvS N m P (List.replicate ds.length 0) = movD N m ds := by
  refine mov_ext h1 h2 hm (by rw [mvS_len]; simpa using hl) (by rw [movD_len]; exact hl) fun i hi => ?_
  rw [movD_get h1 h2 hm hl hi]
  have hpos : ∀ e ∈ P, ∃ k, k < N * N ∧ e = spotI N ds k ∧ ds.getD k 0 ≠ 0 := fun e he => by
    have h3 := hp.mem_iff.1 he
    obtain ⟨k, hk, rfl⟩ := spotsQ_mem h3
    exact ⟨k, by omega, rfl, by have := (List.mem_filter.1 h3).2; simpa [spotI] using this⟩
  by_cases hz : ds.getD i 0 = 0
  · rw [mvS, foldset_get (fun e : (Int × Int) × Int × Nat => ((toS N m e.1).1 * N + (toS N m e.1).2).toNat) (fun e => e.2.1) P]
    · rw [hz, List.getElem?_replicate, if_pos (by rw [hl]; exact posN_lt h1 h2 hi)]
    · intro e he hh
      obtain ⟨k, hk, rfl, hnz⟩ := hpos e he
      have h4 : posN N m k = posN N m i := hh
      have := (posN_inv h1 hm hk).1
      rw [h4, (posN_inv h1 hm hi).1] at this
      subst this; exact hnz hz
  · have hmem : spotI N ds i ∈ P := hp.mem_iff.2 (List.mem_filter.2 ⟨List.mem_map.2 ⟨i, by simp; omega, rfl⟩, by simpa [spotI] using hz⟩)
    have := foldset_hit (fun e : (Int × Int) × Int × Nat => ((toS N m e.1).1 * N + (toS N m e.1).2).toNat) (fun e => e.2.1) P (List.replicate ds.length 0) (spotI N ds i) hmem (fun e he hh => by
      obtain ⟨k, hk, rfl, _⟩ := hpos e he
      have h4 : posN N m k = posN N m i := hh
      have := (posN_inv h1 hm hk).1
      rw [h4, (posN_inv h1 hm hi).1] at this
      rw [this]) (by simp [hl]; exact posN_lt h1 h2 hi)
    exact this
theorem moved_p (p : Pl) (c : Option Nat) (N : Nat) (hv : VP p N) (m : Int) (hm : 0 ≤ m ∧ m < 8) : Pure Try.prog 62 [.rop [i64 p.n, intsA p.ds c] 0, i64 m] (plA (movP p m) (some (movP p m).ds.length)) := by
  obtain ⟨n, ds⟩ := p
  have hv' := hv
  obtain ⟨e, hlo, hhi, hlen, hbd⟩ := hv'
  simp only at e hlen hbd
  subst e
  have hsq : N * N ≤ 64 := Nat.mul_le_mul hhi hhi
  refine pure_of_body Try.func62 (c := body Try.f62) rfl (by simp [Try.ntmps62]) fun w0 Φ0 => ?_
  refine W_seq rfl ?_
  refine W_reg rfl ?_
  refine Ra rfl rfl rfl (U_alloc) rfl rfl rfl ?_
  refine Re rfl ?_
  refine thenQ_n ?_
  refine W_seq rfl ?_
  refine Wdraw rfl (by kernel_rfl) (by kernel_rfl) ?_
  refine Dv rfl rfl rfl (U_move rfl) rfl rfl ?_
  refine Dv rfl rfl rfl (U_nilCheckR rfl) rfl rfl ?_
  refine Dv rfl rfl rfl (U_fieldAddrR rfl) rfl rfl ?_
  refine Dv rfl rfl rfl (U_fieldAddrR rfl) rfl rfl ?_
  refine Dv rfl rfl rfl (U_load1 rfl rfl rfl) rfl rfl ?_
  refine Dv rfl rfl rfl (U_move rfl) rfl rfl ?_
  refine Dv rfl rfl rfl (U_nilCheckR rfl) rfl rfl ?_
  refine Dv rfl rfl rfl (U_fieldAddrR rfl) rfl rfl ?_
  refine Dv rfl rfl rfl (U_fieldAddrR rfl) rfl rfl ?_
  refine Dv rfl rfl rfl (U_load1 rfl rfl rfl) rfl rfl ?_
  refine Dv rfl rfl rfl (U_lenOf rfl len_ros) rfl rfl ?_
  refine Da rfl rfl rfl (U_mkL (n := ds.length) (cs' := (List.replicate ds.length (0 : Int)).map i64) rfl rfl rfl (by omega) (replM rfl _)) rfl rfl rfl rfl ?_
  refine Dv rfl rfl rfl (U_build rfl rfl) rfl rfl ?_
  refine Da rfl rfl rfl (U_alloc) rfl rfl rfl rfl ?_
  refine Dn_ rfl rfl rfl (U_storeAll rfl rfl rfl rfl rfl rfl) rfl rfl ?_
  refine Dr.nil rfl ?_
  refine thenQ_n ?_
  refine W_seq rfl ?_
  refine W_seq rfl ?_
  refine W_reg rfl ?_
  refine Rv rfl rfl rfl (U_move rfl) rfl rfl ?_
  refine Ra rfl rfl rfl (U_callT (mapN []) rfl rfl (spots_p ⟨((N : Nat) : Int), ds⟩ c N hv) rfl rfl trivial rfl rfl) rfl rfl rfl ?_
  refine Rto (T' := [(0, .rop [i64 ((N : Nat) : Int), .ros (ds.map i64) ds.length c] 0), (1, i64 m), (4, .ptr 0 0), (5, .ptr 2 0), (23, .mapl 3)]) (H' := [(0, some (.cells [i64 0, .nils] 24)), (1, some (.cells ((List.replicate ds.length (0 : Int)).map i64) 3)), (2, some (.cells [i64 ((N : Nat) : Int), .slice 1 0 ds.length ds.length] 24)), (3, some (.map (mE spotA i64 (spotsQ N ds)) ds.length))]) (n := 4) id ⟨eD rfl rfl, eD rfl rfl, e_ rfl rfl, e_ rfl rfl, e_ rfl rfl, trivial⟩ ⟨rD rfl rfl rfl, rD (mapD (fun _ => rfl) _) rfl rfl, r_ rfl rfl rfl, rMM (mE_data (fun _ => rfl) (fun _ => rfl) _) rfl rfl, trivial⟩ rfl rfl rfl rfl (fun _ _ => rfl) ?_
  refine Ra rfl rfl rfl (U_rangeM Try.underlying101 rfl rfl) rfl rfl rfl ?_
  refine Re rfl ?_
  refine thenQ_n ?_
  refine W_block rfl ?_
  refine LoopTo (T' := [(0, .rop [i64 ((N : Nat) : Int), .ros (ds.map i64) ds.length c] 0), (1, i64 m), (4, .ptr 0 0), (5, .ptr 2 0), (24, .ptr 4 0)]) (H' := [(0, some (.cells [i64 0, .nils] 24)), (1, some (.cells ((List.replicate ds.length 0).map i64) 3)), (2, some (.cells [i64 ((N : Nat) : Int), .slice 1 0 ds.length ds.length] 24)), (3, some (.map (mE spotA i64 (spotsQ N ds)) ds.length)), (4, some (.iter (.mapl 3) ds.length (stamps []) ds.length))]) (n := 5) rfl (fun mz_ qz_ => ∃ (P : Spots) (Rs : Spots) (h : List Int), (P ++ Rs).Perm (spotsQ N ds) ∧ h = mvS N m P (List.replicate ds.length 0) ∧ mz_ = Rs.length ∧ qz_ = ⟨[(0, .rop [i64 ((N : Nat) : Int), .ros (ds.map i64) ds.length c] 0), (1, i64 m), (4, .ptr 0 0), (5, .ptr 2 0), (24, .ptr 4 0)], [(0, some (.cells [i64 0, .nils] 24)), (1, some (.cells (h.map i64) 3)), (2, some (.cells [i64 ((N : Nat) : Int), .slice 1 0 ds.length ds.length] 24)), (3, some (.map (mE spotA i64 (spotsQ N ds)) ds.length)), (4, some (.iter (.mapl 3) ds.length (stamps P) ds.length))], 5, []⟩) ⟨[], spotsQ N ds, List.replicate ds.length 0, (List.Perm.refl _), rfl, rfl, rfl⟩ id ⟨eD rfl rfl, eD rfl rfl, e_ rfl rfl, e_ rfl rfl, e_ rfl rfl, trivial⟩ ⟨rD rfl rfl rfl, rD (mapD (fun _ => rfl) _) rfl rfl, r_ rfl rfl rfl, rMp (mE_data (fun _ => rfl) (fun _ => rfl) _) rfl rfl, r_ rfl rfl rfl, trivial⟩ rfl rfl rfl rfl (fun _ _ => rfl) ?_
  rintro _ _ ⟨P, Rs, h, hi0_0, hi0_1, rfl, rfl⟩
  have hhl : h.length = ds.length := by rw [hi0_1, mvS_len]; simp
  refine W_seq rfl ?_
  refine W_reg rfl ?_
  refine RnextP (ek := spotA) (el := i64) (P := P) (R := Rs) (M := spotsQ N ds) spotsQ_ok hi0_0 (fun x hx => hi0_0.mem_iff.1 (List.mem_append_right _ hx)) (fun x hx => hx) rfl rfl rfl rfl rfl rfl rfl rfl rfl (fun hR_25 => ?_) (fun e R1_25 R2_25 he_25 hR_25 hp_25 => ?_)
  · refine Rv rfl rfl rfl (U_extract rfl rfl) rfl rfl ?_
    refine Re rfl ?_
    refine thenQ_n ?_
    refine W_seq rfl ?_
    refine Wcond rfl rfl (fun h => nomatch h) (fun _ => ?_)
    refine W_exit rfl ?_
    refine thenQ_x ?_
    refine thenQ_x ?_
    refine blkQ_x rfl ?_
    refine thenQ_n ?_
    refine W_seq rfl ?_
    refine W_reg rfl ?_
    refine Rv rfl rfl rfl (U_load2 rfl rfl rfl rfl) rfl rfl ?_
    refine Rn rfl rfl rfl (U_storeAll rfl rfl rfl rfl rfl rfl) rfl ?_
    refine Re rfl ?_
    refine thenQ_n ?_
    refine WfrN 1 rfl (mapD (fun _ => rfl) _) (T' := [(4, .ptr 0 0)]) (H' := [(0, some (.cells [i64 ((N : Nat) : Int), .ros (h.map i64) ds.length (some ds.length)] 24))]) ⟨⟨_, rfl, rfl⟩, trivial⟩ ⟨⟨rfl, rF rfl (by simp [ABlk.fr, frL, AV.fr, bleR])⟩, trivial⟩ ?_
    refine W_ret rfl ?_
    exact retL (rlA rfl rfl rfl rl0) (by first | rfl | (simp only [packA]; rw [hi0_1, mvS_perm hlo hhi hm hlen (by rw [hR_25, List.append_nil] at hi0_0; exact hi0_0)]; show AV.agg [i64 (N : Int), .ros ((movD N m ds).map i64) ds.length (some ds.length)] = .agg [i64 (N : Int), .ros ((movD N m ds).map i64) (movD N m ds).length (some (movD N m ds).length)]; rw [movD_len]; first | done | rfl)) rfl
  · obtain ⟨ii, hii, hie⟩ := spotsQ_mem he_25
    have hin : InS N e.1 := by rw [hie]; exact in_sq hlo (by omega)
    have hin2 : InS N (e.1.1, e.1.2) := hin
    have hpb := pos_bd hhi (toS_in (n := (N : Int)) (m := m) hin)
    have hsqi : ((N * N : Nat) : Int) = (N : Int) * N := by exact_mod_cast rfl
    refine Rv rfl rfl rfl (U_extract rfl rfl) rfl rfl ?_
    refine Re rfl ?_
    refine thenQ_n ?_
    refine W_seq rfl ?_
    refine Wcond rfl rfl (fun _ => ?_) (fun h => nomatch h)
    refine W_skip rfl ?_
    refine thenQ_n ?_
    refine W_block rfl ?_
    refine W_seq rfl ?_
    refine W_reg rfl ?_
    refine Rv rfl rfl rfl (U_entryM (e := e) (P := P) (M := (spotsQ N ds)) (ek := spotA) (el := i64) rfl rfl rfl spotsQ_ok.st he_25) rfl rfl ?_
    refine Rv rfl rfl rfl (U_extract rfl rfl) rfl rfl ?_
    refine Rv rfl rfl rfl (U_extract rfl rfl) rfl rfl ?_
    refine Ra rfl rfl rfl (U_alloc) rfl rfl rfl ?_
    refine Rn rfl rfl rfl (U_storeAll rfl rfl rfl rfl rfl rfl) rfl ?_
    refine Rv rfl rfl rfl (U_assign rfl) rfl rfl ?_
    refine Re rfl ?_
    refine thenQ_n ?_
    refine WfrN 5 rfl rfl (T' := [(0, .rop [i64 ((N : Nat) : Int), .ros (ds.map i64) ds.length c] 0), (1, i64 m), (4, .ptr 0 0), (5, .ptr 2 0), (6, .rop [i64 e.1.1, i64 e.1.2] 0), (7, i64 e.2.1), (24, .ptr 4 0)]) (H' := [(0, some (.cells [i64 0, .nils] 24)), (1, some (.cells (h.map i64) 3)), (2, some (.cells [i64 ((N : Nat) : Int), .slice 1 0 ds.length ds.length] 24)), (3, some (.map (mE spotA i64 (spotsQ N ds)) ds.length)), (4, some (.iter (.mapl 3) ds.length (stamps (P ++ [e])) ds.length))]) ⟨⟨_, rfl, rfl⟩, ⟨_, rfl, rfl⟩, ⟨_, rfl, rfl⟩, ⟨_, rfl, rfl⟩, ⟨_, rfl, rfl⟩, ⟨_, rfl, rfl⟩, ⟨_, rfl, rfl⟩, trivial⟩ ⟨⟨rfl, rF rfl rfl⟩, ⟨rfl, rFD (mapD (fun _ => rfl) _) rfl⟩, ⟨rfl, rF rfl rfl⟩, ⟨rfl, rFMp (mE_data (fun _ => rfl) (fun _ => rfl) _) rfl⟩, ⟨rfl, rF rfl rfl⟩, trivial⟩ ?_
    refine W_seq rfl ?_
    refine Wdraw rfl (by kernel_rfl) (by kernel_rfl) ?_
    refine Dv rfl rfl rfl (U_load2 rfl rfl rfl rfl) rfl rfl ?_
    refine Dv rfl rfl rfl (U_move rfl) rfl rfl ?_
    refine Dv rfl rfl rfl (U_nilCheckR rfl) rfl rfl ?_
    refine Dv rfl rfl rfl (U_fieldAddrR rfl) rfl rfl ?_
    refine Dv rfl rfl rfl (U_fieldAddrR rfl) rfl rfl ?_
    refine Dv rfl rfl rfl (U_load1 rfl rfl rfl) rfl rfl ?_
    refine Dv rfl rfl rfl (U_move rfl) rfl rfl ?_
    refine Dv rfl rfl rfl (U_call rfl rfl (to_p ((N : Nat) : Int) m e.1 (by first | assumption | omega) (by first | assumption | omega) (by first | assumption | (unfold InS; simp only; omega))) rfl) rfl rfl ?_
    refine Da rfl rfl rfl (U_alloc) rfl rfl rfl rfl ?_
    refine Dn_ rfl rfl rfl (U_storeAll rfl rfl rfl rfl rfl rfl) rfl rfl ?_
    refine Dr.nil rfl ?_
    refine thenQ_n ?_
    refine WfrN 6 rfl rfl (T' := [(0, .rop [i64 ((N : Nat) : Int), .ros (ds.map i64) ds.length c] 0), (1, i64 m), (4, .ptr 0 0), (5, .ptr 2 0), (7, i64 e.2.1), (8, .rop [i64 ((toS ((N : Nat) : Int) m e.1).1), i64 ((toS ((N : Nat) : Int) m e.1).2)] 0), (24, .ptr 4 0)]) (H' := [(0, some (.cells [i64 0, .nils] 24)), (1, some (.cells (h.map i64) 3)), (2, some (.cells [i64 ((N : Nat) : Int), .slice 1 0 ds.length ds.length] 24)), (3, some (.map (mE spotA i64 (spotsQ N ds)) ds.length)), (4, some (.iter (.mapl 3) ds.length (stamps (P ++ [e])) ds.length))]) ⟨⟨_, rfl, rfl⟩, ⟨_, rfl, rfl⟩, ⟨_, rfl, rfl⟩, ⟨_, rfl, rfl⟩, ⟨_, rfl, rfl⟩, ⟨_, rfl, rfl⟩, ⟨_, rfl, rfl⟩, trivial⟩ ⟨⟨rfl, rF rfl rfl⟩, ⟨rfl, rFD (mapD (fun _ => rfl) _) rfl⟩, ⟨rfl, rF rfl rfl⟩, ⟨rfl, rFMp (mE_data (fun _ => rfl) (fun _ => rfl) _) rfl⟩, ⟨rfl, rF rfl rfl⟩, trivial⟩ ?_
    refine Wdraw rfl (by kernel_rfl) (by kernel_rfl) ?_
    refine Dv rfl rfl rfl (U_fieldAddr rfl) rfl rfl ?_
    refine Dv rfl rfl rfl (U_load1 rfl rfl rfl) rfl rfl ?_
    refine Dv rfl rfl rfl (U_fieldAddrR rfl) rfl rfl ?_
    refine Dv rfl rfl rfl (U_load1 rfl rfl rfl) rfl rfl ?_
    refine Dv rfl rfl rfl (U_move rfl) rfl rfl ?_
    refine Dv rfl rfl rfl (U_nilCheckR rfl) rfl rfl ?_
    refine Dv rfl rfl rfl (U_fieldAddrR rfl) rfl rfl ?_
    refine Dv rfl rfl rfl (U_fieldAddrR rfl) rfl rfl ?_
    refine Dv rfl rfl rfl (U_load1 rfl rfl rfl) rfl rfl ?_
    refine Dv rfl rfl rfl (U_mul rfl rfl (w64 (by omega) (by omega))) rfl rfl ?_
    refine Dv rfl rfl rfl (U_fieldAddrR rfl) rfl rfl ?_
    refine Dv rfl rfl rfl (U_load1 rfl rfl rfl) rfl rfl ?_
    refine Dv rfl rfl rfl (U_add rfl rfl (w64 (by omega) (by omega))) rfl rfl ?_
    refine Dv rfl rfl rfl (U_move rfl) rfl rfl ?_
    have hx1 : ((((toS ((N : Nat) : Int) m e.1).1) * ((N : Nat) : Int)) + ((toS ((N : Nat) : Int) m e.1).2)).toNat < h.length := by rw [hhl, hlen]; omega
    refine Dv rfl rfl rfl (U_indexS (j := ((((toS ((N : Nat) : Int) m e.1).1) * ((N : Nat) : Int)) + ((toS ((N : Nat) : Int) m e.1).2)).toNat) rfl rfl (by omega) (by omega)) rfl rfl ?_
    refine Dn_ rfl rfl rfl (U_store (n := 1) (cs' := (h.set (((((toS ((N : Nat) : Int) m e.1).1) * ((N : Nat) : Int)) + ((toS ((N : Nat) : Int) m e.1).2)).toNat) e.2.1).map i64) rfl rfl rfl rfl rfl (stLt hx1) rfl setM) rfl rfl ?_
    refine Dr.nil rfl ?_
    refine blkQ_n ?_
    refine thenQ_n ?_
    exact againTo (T' := [(0, .rop [i64 ((N : Nat) : Int), .ros (ds.map i64) ds.length c] 0), (1, i64 m), (4, .ptr 0 0), (5, .ptr 2 0), (24, .ptr 4 0)]) (H' := [(0, some (.cells [i64 0, .nils] 24)), (1, some (.cells ((h.set (((((toS ((N : Nat) : Int) m e.1).1) * ((N : Nat) : Int)) + ((toS ((N : Nat) : Int) m e.1).2)).toNat) e.2.1).map i64) 3)), (2, some (.cells [i64 ((N : Nat) : Int), .slice 1 0 ds.length ds.length] 24)), (3, some (.map (mE spotA i64 (spotsQ N ds)) ds.length)), (4, some (.iter (.mapl 3) ds.length (stamps (P ++ [e])) ds.length))]) (n := 5) ((R1_25 ++ R2_25).length) ⟨P ++ [e], R1_25 ++ R2_25, h.set (((((toS ((N : Nat) : Int) m e.1).1) * ((N : Nat) : Int)) + ((toS ((N : Nat) : Int) m e.1).2)).toNat) e.2.1, hp_25, (by rw [mvS_snoc, ← hi0_1]), rfl, rfl⟩ (by rw [hR_25]; simp) id ⟨eD rfl rfl, eD rfl rfl, e_ rfl rfl, e_ rfl rfl, e_ rfl rfl, trivial⟩ ⟨rD rfl rfl rfl, rD (mapD (fun _ => rfl) _) rfl rfl, r_ rfl rfl rfl, rMp (mE_data (fun _ => rfl) (fun _ => rfl) _) rfl rfl, r_ rfl rfl rfl, trivial⟩ rfl rfl rfl rfl (fun _ _ => rfl)
end Go.Proofs.Ythoodfiacfmhgaa
end

section
/- Contracts of package plate: what it hands out of motions. -/
namespace Go.Proofs.Ythoodfiacfmhgaa
set_option maxRecDepth 20000
open Go.AE
theorem inL_mo {m : Int} : inL 0 7 [m] = isMo m := by rw [inL1, Bool.eq_iff_iff]; simp [isMo]; omega
theorem isMo_iff {m : Int} : isMo m = true ↔ 0 ≤ m ∧ m < 8 := by simp [isMo]
/-- The error of a plate, and of a motion. -/
def mvE (p : Pl) (m : Int) : Int := if chkP p ≠ 0 then chkP p else if isMo m = true then 0 else 2
def mvR (p : Pl) (m : Int) : Pl := if mvE p m = 0 then movP p m else ⟨0, []⟩
theorem opE1 {p : Pl} {m : Int} : opE p [m] = mvE p m := by unfold opE mvE; rw [inL_mo]
theorem opE0 {p : Pl} : opE p [] = chkP p := by unfold opE; split; rfl; rename_i h; rw [Decidable.not_not.1 h]; rfl
theorem mvE_ok {p : Pl} {m : Int} (h : mvE p m = 0) : chkP p = 0 ∧ 0 ≤ m ∧ m < 8 := by
  unfold mvE at h
  split at h
  · rename_i h1; exact absurd h h1
  · rename_i h1
    split at h
    · rename_i h2; exact ⟨Decidable.not_not.1 h1, isMo_iff.1 h2⟩
    · cases h
theorem open_p (p : Pl) (c : Option Nat) (hl : p.ds.length ≤ 1000000) (l : List Int) (d : Option Nat) (hl2 : l.length ≤ 1000000) : Pure Try.prog 61 [plA p c, intsA l d] (.tup [if opE p l = 0 then .rop [i64 p.n, intsA p.ds c] 0 else .nilp, i64 (opE p l)]) := by
  refine pure_of_body Try.func61 (c := body Try.f61) rfl (by simp [Try.ntmps61]) fun w0 Φ0 => ?_
  refine W_seq rfl ?_
  refine W_reg rfl ?_
  refine Rv rfl rfl rfl (U_boxF rfl rfl rfl) rfl rfl ?_
  refine Rv rfl rfl rfl (U_assign rfl) rfl rfl ?_
  refine Rv rfl rfl rfl (U_assign rfl) rfl rfl ?_
  refine Re rfl ?_
  refine thenQ_n ?_
  refine W_seq rfl ?_
  refine W_reg rfl ?_
  refine Rv rfl rfl rfl (U_load2 rfl rfl rfl rfl) rfl rfl ?_
  refine Rv rfl rfl rfl (U_call rfl rfl (chkP_p p c (by first | assumption | omega)) rfl) rfl rfl ?_
  refine Rv rfl rfl rfl (U_assign rfl) rfl rfl ?_
  refine Re rfl ?_
  refine thenQ_n ?_
  refine W_seq rfl ?_
  refine W_block rfl ?_
  refine W_seq rfl ?_
  refine W_reg rfl ?_
  refine Rv rfl rfl rfl (U_move rfl) rfl rfl ?_
  refine Rv rfl rfl rfl (U_neq rfl rfl) rfl rfl ?_
  refine Rv rfl rfl rfl (U_assign rfl) rfl rfl ?_
  refine Re rfl ?_
  refine thenQ_n ?_
  refine WcondP rfl rfl (fun hc0 => ?_) (fun hc0 => ?_)
  · have hop : opE p l = chkP p := by rw [opE, if_pos hc0]
    rw [hop, if_neg hc0]
    refine W_seq rfl ?_
    refine W_reg rfl ?_
    refine Rv rfl rfl rfl (U_move rfl) rfl rfl ?_
    refine Rv rfl rfl rfl (U_assign rfl) rfl rfl ?_
    refine Rv rfl rfl rfl (U_assign rfl) rfl rfl ?_
    refine Re rfl ?_
    refine thenQ_n ?_
    refine W_ret rfl ?_
    refine blkQ_r ?_
    refine thenQ_r ?_
    exact retL (rlT rfl (rlT rfl rl0)) (by first | rfl | (simp only [packA]; rfl; first | done | rfl)) rfl
  · rw [Decidable.not_not] at hc0
    refine W_seq rfl ?_
    refine W_reg rfl ?_
    refine Rv rfl rfl rfl (U_move rfl) rfl rfl ?_
    refine Rv rfl rfl rfl (U_call rfl rfl (within_p 0 7 l d (by first | assumption | omega | (simp; done) | (simp; omega))) rfl) rfl rfl ?_
    refine Rv rfl rfl rfl (U_not rfl) rfl rfl ?_
    refine Rv rfl rfl rfl (U_assign rfl) rfl rfl ?_
    refine Re rfl ?_
    refine thenQ_n ?_
    refine Wcond rfl rfl (fun hc1 => ?_) (fun hc1 => ?_)
    · have hop : opE p l = 2 := by rw [opE, if_neg (by simpa using hc0), if_neg (by simpa using hc1)]
      rw [hop, if_neg (by decide)]
      refine W_seq rfl ?_
      refine W_reg rfl ?_
      refine Rv rfl rfl rfl (U_assign rfl) rfl rfl ?_
      refine Rv rfl rfl rfl (U_assign rfl) rfl rfl ?_
      refine Re rfl ?_
      refine thenQ_n ?_
      refine W_ret rfl ?_
      refine blkQ_r ?_
      refine thenQ_r ?_
      exact retL (rlT rfl (rlT rfl rl0)) (by first | rfl | (simp only [packA]; rfl; first | done | rfl)) rfl
    · have hc1' := Bool.eq_false_iff.1 hc1
      have hop : opE p l = 0 := by rw [opE, if_neg (by simpa using hc0), if_pos (by simpa using hc1)]
      rw [hop, if_pos rfl]
      refine W_skip rfl ?_
      refine blkQ_n ?_
      refine thenQ_n ?_
      refine W_seq rfl ?_
      refine W_reg rfl ?_
      refine Rv rfl rfl rfl (U_load2 rfl rfl rfl rfl) rfl rfl ?_
      refine Rv rfl rfl rfl (U_build rfl rfl) rfl rfl ?_
      refine Rv rfl rfl rfl (U_boxF rfl rfl rfl) rfl rfl ?_
      refine Rv rfl rfl rfl (U_assign rfl) rfl rfl ?_
      refine Rv rfl rfl rfl (U_assign rfl) rfl rfl ?_
      refine Re rfl ?_
      refine thenQ_n ?_
      refine W_ret rfl ?_
      exact retL (rlT rfl (rlT rfl rl0)) (by first | rfl | (simp only [packA]; rfl; first | done | rfl)) rfl
theorem move_p (p : Pl) (c : Option Nat) (hl : p.ds.length ≤ 1000000) (m : Int) : Pure Try.prog 19 [plA p c, i64 m] (.tup [plA (mvR p m) none, i64 (mvE p m)]) := by
  refine pure_of_body Try.func19 (c := body Try.f19) rfl (by simp [Try.ntmps19]) fun w0 Φ0 => ?_
  refine W_seq rfl ?_
  refine W_reg rfl ?_
  refine Rv rfl rfl rfl (U_boxF rfl rfl rfl) rfl rfl ?_
  refine Ra rfl rfl rfl (U_alloc) rfl rfl rfl ?_
  refine Rv rfl rfl rfl (U_assign rfl) rfl rfl ?_
  refine Re rfl ?_
  refine thenQ_n ?_
  refine W_seq rfl ?_
  refine W_reg rfl ?_
  refine Rv rfl rfl rfl (U_load2 rfl rfl rfl rfl) rfl rfl ?_
  refine Rv rfl rfl rfl (U_move rfl) rfl rfl ?_
  refine Rv rfl rfl rfl (U_buildSliceF (by rfl) (by decide) rfl rfl rfl) rfl rfl ?_
  refine Rv rfl rfl rfl (U_call rfl rfl (open_p p c (by first | assumption | omega) [m] (some 1) (by first | assumption | omega | (simp; done) | (simp; omega))) rfl) rfl rfl ?_
  refine Rv rfl rfl rfl (U_move rfl) rfl rfl ?_
  refine Rv rfl rfl rfl (U_extract rfl rfl) rfl rfl ?_
  refine Rv rfl rfl rfl (U_extract rfl rfl) rfl rfl ?_
  refine Rv rfl rfl rfl (U_assign rfl) rfl rfl ?_
  refine Rv rfl rfl rfl (U_assign rfl) rfl rfl ?_
  refine Re rfl ?_
  refine thenQ_n ?_
  refine W_seq rfl ?_
  refine W_seq rfl ?_
  refine W_reg rfl ?_
  refine Rv rfl rfl rfl (U_move rfl) rfl rfl ?_
  refine Rv rfl rfl rfl (U_neq rfl rfl) rfl rfl ?_
  refine Re rfl ?_
  refine thenQ_n ?_
  refine WcondP rfl rfl (fun hc0 => ?_) (fun hc0 => ?_)
  · simp only [if_neg hc0]
    refine W_seq rfl ?_
    refine W_reg rfl ?_
    refine Rv rfl rfl rfl (U_build rfl rfl) rfl rfl ?_
    refine Rv rfl rfl rfl (U_move rfl) rfl rfl ?_
    refine Rn rfl rfl rfl (U_storeAll rfl rfl rfl rfl rfl rfl) rfl ?_
    refine Rv rfl rfl rfl (U_assign rfl) rfl rfl ?_
    refine Re rfl ?_
    refine thenQ_n ?_
    refine WweakH (b := 0) (cs' := [i64 0, .ros [] 0 none]) rfl (leL_cons (le_refl _) (leL_cons le_nils (leL_refl _))) ?_
    refine W_ret rfl ?_
    refine thenQ_r ?_
    exact retL (rlA rfl rfl rfl (rlT rfl rl0)) (by first | rfl | (simp only [packA]; rw [opE1] at hc0 ⊢; rw [mvR, if_neg hc0]; first | done | rfl) | (simp only [packA]; rw [mvR, if_pos hc0, hc0]; first | done | rfl)) rfl
  · rw [Decidable.not_not] at hc0
    simp only [if_pos hc0]
    rw [opE1] at hc0
    obtain ⟨hcp, hm⟩ := mvE_ok hc0
    obtain ⟨N, hv⟩ := vp_of hcp
    refine W_skip rfl ?_
    refine thenQ_n ?_
    refine W_seq rfl ?_
    refine W_reg rfl ?_
    refine Rv rfl rfl rfl (U_move rfl) rfl rfl ?_
    refine Rv rfl rfl rfl (U_move rfl) rfl rfl ?_
    refine Rv rfl rfl rfl (U_call rfl rfl (moved_p p c N hv m (by first | assumption | omega)) rfl) rfl rfl ?_
    refine Rn rfl rfl rfl (U_storeAll rfl rfl rfl rfl rfl rfl) rfl ?_
    refine Rv rfl rfl rfl (U_assign rfl) rfl rfl ?_
    refine Re rfl ?_
    refine thenQ_n ?_
    refine WweakH (b := 0) (cs' := [i64 ((movP p m).n), .ros (((movP p m).ds).map i64) (((movP p m).ds).length) none]) rfl (leL_cons (le_refl _) (leL_cons le_cap (leL_refl _))) ?_
    refine W_ret rfl ?_
    exact retL (rlA rfl rfl rfl (rlT rfl rl0)) (by first | rfl | (simp only [packA]; rw [opE1] at hc0 ⊢; rw [mvR, if_neg hc0]; first | done | rfl) | (simp only [packA]; rw [mvR, if_pos hc0, hc0]; first | done | rfl)) rfl
theorem moveR_p (p : Pl) (c : Option Nat) (hl : p.ds.length ≤ 1000000) (m : Int) : Pure Try.prog 20 [plA p c, i64 m] (.tup [plA (mvR p m) none, i64 (mvE p m)]) := by
  refine pure_of_body Try.func20 (c := body Try.f20) rfl (by simp [Try.ntmps20]) fun w0 Φ0 => ?_
  refine W_seq rfl ?_
  refine W_reg rfl ?_
  refine Rv rfl rfl rfl (U_boxF rfl rfl rfl) rfl rfl ?_
  refine Ra rfl rfl rfl (U_alloc) rfl rfl rfl ?_
  refine Rv rfl rfl rfl (U_assign rfl) rfl rfl ?_
  refine Re rfl ?_
  refine thenQ_n ?_
  refine W_seq rfl ?_
  refine W_seq rfl ?_
  refine W_reg rfl ?_
  refine Rv rfl rfl rfl (U_load2 rfl rfl rfl rfl) rfl rfl ?_
  refine Rv rfl rfl rfl (U_call rfl rfl (chkPR_p p c (by first | assumption | omega)) rfl) rfl rfl ?_
  refine Rv rfl rfl rfl (U_neq rfl rfl) rfl rfl ?_
  refine Re rfl ?_
  refine thenQ_n ?_
  refine WcondP rfl rfl (fun hc0 => ?_) (fun hc0 => ?_)
  · have hme : mvE p m = chkP p := by rw [mvE, if_pos hc0]
    refine W_seq rfl ?_
    refine W_reg rfl ?_
    refine Rv rfl rfl rfl (U_build rfl rfl) rfl rfl ?_
    refine Rv rfl rfl rfl (U_load2 rfl rfl rfl rfl) rfl rfl ?_
    refine Rv rfl rfl rfl (U_call rfl rfl (chkPR_p p c (by first | assumption | omega)) rfl) rfl rfl ?_
    refine Rn rfl rfl rfl (U_storeAll rfl rfl rfl rfl rfl rfl) rfl ?_
    refine Rv rfl rfl rfl (U_assign rfl) rfl rfl ?_
    refine Re rfl ?_
    refine thenQ_n ?_
    refine WweakH (b := 0) (cs' := [i64 0, .ros [] 0 none]) rfl (leL_cons (le_refl _) (leL_cons le_nils (leL_refl _))) ?_
    refine W_ret rfl ?_
    refine thenQ_r ?_
    exact retL (rlA rfl rfl rfl (rlT rfl rl0)) (by first | rfl | (simp only [packA]; rw [mvR, hme, if_neg hc0]; first | done | rfl) | (simp only [packA]; rw [mvR, hme, if_neg (by decide)]; first | done | rfl) | (simp only [packA]; rw [mvR, hme, if_pos rfl]; first | done | rfl)) rfl
  · rw [Decidable.not_not] at hc0
    refine W_skip rfl ?_
    refine thenQ_n ?_
    refine W_seq rfl ?_
    refine W_seq rfl ?_
    refine W_reg rfl ?_
    refine Rv rfl rfl rfl (U_move rfl) rfl rfl ?_
    refine Rv rfl rfl rfl (U_call rfl rfl (isMo_p m) rfl) rfl rfl ?_
    refine Rv rfl rfl rfl (U_not rfl) rfl rfl ?_
    refine Re rfl ?_
    refine thenQ_n ?_
    refine Wcond rfl rfl (fun hc1 => ?_) (fun hc1 => ?_)
    · have hme : mvE p m = 2 := by rw [mvE, if_neg (by simpa using hc0), if_neg (by simpa using hc1)]
      refine W_seq rfl ?_
      refine W_reg rfl ?_
      refine Rv rfl rfl rfl (U_build rfl rfl) rfl rfl ?_
      refine Rn rfl rfl rfl (U_storeAll rfl rfl rfl rfl rfl rfl) rfl ?_
      refine Rv rfl rfl rfl (U_assign rfl) rfl rfl ?_
      refine Re rfl ?_
      refine thenQ_n ?_
      refine WweakH (b := 0) (cs' := [i64 0, .ros [] 0 none]) rfl (leL_cons (le_refl _) (leL_cons le_nils (leL_refl _))) ?_
      refine W_ret rfl ?_
      refine thenQ_r ?_
      exact retL (rlA rfl rfl rfl (rlT rfl rl0)) (by first | rfl | (simp only [packA]; rw [mvR, hme, if_neg hc0]; first | done | rfl) | (simp only [packA]; rw [mvR, hme, if_neg (by decide)]; first | done | rfl) | (simp only [packA]; rw [mvR, hme, if_pos rfl]; first | done | rfl)) rfl
    · have hc1' := Bool.eq_false_iff.1 hc1
      have hmo : isMo m = true := by simpa using hc1
      have hme : mvE p m = 0 := by rw [mvE, if_neg (by simpa using hc0), if_pos hmo]
      obtain ⟨N, hv⟩ := vp_of hc0
      have hm := isMo_iff.1 hmo
      refine W_skip rfl ?_
      refine thenQ_n ?_
      refine W_seq rfl ?_
      refine W_reg rfl ?_
      refine Rv rfl rfl rfl (U_load2 rfl rfl rfl rfl) rfl rfl ?_
      refine Rv rfl rfl rfl (U_move rfl) rfl rfl ?_
      refine Rv rfl rfl rfl (U_call rfl rfl (moveOf_p p c N hv m (by first | assumption | omega)) rfl) rfl rfl ?_
      refine Rn rfl rfl rfl (U_storeAll rfl rfl rfl rfl rfl rfl) rfl ?_
      refine Rv rfl rfl rfl (U_assign rfl) rfl rfl ?_
      refine Re rfl ?_
      refine thenQ_n ?_
      refine WweakH (b := 0) (cs' := [i64 ((movP p m).n), .ros (((movP p m).ds).map i64) (((movP p m).ds).length) none]) rfl (leL_cons (le_refl _) (leL_cons le_cap (leL_refl _))) ?_
      refine W_ret rfl ?_
      exact retL (rlA rfl rfl rfl (rlT rfl rl0)) (by first | rfl | (simp only [packA]; rw [mvR, hme, if_neg hc0]; first | done | rfl) | (simp only [packA]; rw [mvR, hme, if_neg (by decide)]; first | done | rfl) | (simp only [packA]; rw [mvR, hme, if_pos rfl]; first | done | rfl)) rfl
def aftE (a b : Int) : Int := if isMo a = true ∧ isMo b = true then 0 else 2
def aftR (a b : Int) : Int := if isMo a = true ∧ isMo b = true then aft a b else 0
def invE (m : Int) : Int := if isMo m = true then 0 else 2
def invR (m : Int) : Int := if isMo m = true then invM m else 0
theorem inL_mo2 {a b : Int} : inL 0 7 [a, b] = (isMo a && isMo b) := by
  rw [Bool.eq_iff_iff]; simp [inL, isMo]; omega
theorem inv_first {m : Int} (hm : 0 ≤ m ∧ m < 8) {k : Nat} (hk : k < 8) (h : aft m k = 0) : invM m = k := by
  have h1 : (motions.all fun m => motions.all fun k => decide (aft m k = 0 → invM m = k)) = true := by decide +kernel
  simp only [List.all_eq_true, decide_eq_true_eq] at h1
  exact h1 m (mo_mem hm) k (mo_mem (by omega)) h
theorem inv_none {m : Int} (hm : 0 ≤ m ∧ m < 8) (h : ∀ k : Nat, k < 8 → ¬ aft m k = 0) : False := by
  have := inv_in hm
  exact h (invM m).toNat (by omega) (by rw [Int.toNat_of_nonneg this.1]; exact (aft_inv1 hm).1)
theorem afterA_p (a b : Int) : Pure Try.prog 27 [i64 a, i64 b] (.tup [i64 (aftR a b), i64 (aftE a b)]) := by
  refine pure_of_body Try.func27 (c := body Try.f27) rfl (by simp [Try.ntmps27]) fun w0 Φ0 => ?_
  refine W_seq rfl ?_
  refine W_reg rfl ?_
  refine Rv rfl rfl rfl (U_assign rfl) rfl rfl ?_
  refine Rv rfl rfl rfl (U_assign rfl) rfl rfl ?_
  refine Re rfl ?_
  refine thenQ_n ?_
  refine W_seq rfl ?_
  refine W_seq rfl ?_
  refine W_reg rfl ?_
  refine Rv rfl rfl rfl (U_move rfl) rfl rfl ?_
  refine Rv rfl rfl rfl (U_move rfl) rfl rfl ?_
  refine Rv rfl rfl rfl (U_buildSliceF (by rfl) (by decide) rfl rfl rfl) rfl rfl ?_
  refine Rv rfl rfl rfl (U_call rfl rfl (within_p 0 7 [a, b] (some 2) (by first | assumption | omega | (simp; done) | (simp; omega))) rfl) rfl rfl ?_
  refine Rv rfl rfl rfl (U_not rfl) rfl rfl ?_
  refine Re rfl ?_
  refine thenQ_n ?_
  refine Wcond rfl rfl (fun hc0 => ?_) (fun hc0 => ?_)
  · rw [inL_mo2] at hc0
    have hn : ¬ (isMo a = true ∧ isMo b = true) := by intro h; simp [h.1, h.2] at hc0
    rw [aftR, aftE, if_neg hn, if_neg hn]
    refine W_seq rfl ?_
    refine W_reg rfl ?_
    refine Rv rfl rfl rfl (U_assign rfl) rfl rfl ?_
    refine Rv rfl rfl rfl (U_assign rfl) rfl rfl ?_
    refine Re rfl ?_
    refine thenQ_n ?_
    refine W_ret rfl ?_
    refine thenQ_r ?_
    exact retL (rlT rfl (rlT rfl rl0)) (by first | rfl | (simp only [packA]; rfl; first | done | rfl)) rfl
  · have hc0' := Bool.eq_false_iff.1 hc0
    rw [inL_mo2] at hc0
    have hn : isMo a = true ∧ isMo b = true := by simpa using hc0
    rw [aftR, aftE, if_pos hn, if_pos hn]
    have ha := isMo_iff.1 hn.1
    have hb := isMo_iff.1 hn.2
    refine W_skip rfl ?_
    refine thenQ_n ?_
    refine W_seq rfl ?_
    refine W_reg rfl ?_
    refine Rv rfl rfl rfl (U_move rfl) rfl rfl ?_
    refine Rv rfl rfl rfl (U_move rfl) rfl rfl ?_
    refine Rv rfl rfl rfl (U_call rfl rfl (after_p a b (by first | assumption | omega) (by first | assumption | omega)) rfl) rfl rfl ?_
    refine Rv rfl rfl rfl (U_assign rfl) rfl rfl ?_
    refine Rv rfl rfl rfl (U_assign rfl) rfl rfl ?_
    refine Re rfl ?_
    refine thenQ_n ?_
    refine W_ret rfl ?_
    exact retL (rlT rfl (rlT rfl rl0)) (by first | rfl | (simp only [packA]; rfl; first | done | rfl)) rfl
theorem afterAR_p (a b : Int) : Pure Try.prog 28 [i64 a, i64 b] (.tup [i64 (aftR a b), i64 (aftE a b)]) := by
  refine pure_of_body Try.func28 (c := body Try.f28) rfl (by simp [Try.ntmps28]) fun w0 Φ0 => ?_
  refine W_seq rfl ?_
  refine W_reg rfl ?_
  refine Rv rfl rfl rfl (U_assign rfl) rfl rfl ?_
  refine Rv rfl rfl rfl (U_assign rfl) rfl rfl ?_
  refine Re rfl ?_
  refine thenQ_n ?_
  refine W_seq rfl ?_
  refine W_seq rfl ?_
  refine Wjoin ⟨[(0, i64 a), (1, i64 b), (13, .bool ((!(isMo a)) || (!(isMo b))))], [], 0, []⟩ ?_ ?_
  · refine W_reg rfl ?_
    refine Rv rfl rfl rfl (U_move rfl) rfl rfl ?_
    refine Rv rfl rfl rfl (U_call rfl rfl (isMo_p a) rfl) rfl rfl ?_
    refine Rv rfl rfl rfl (U_not rfl) rfl rfl ?_
    refine Rv rfl rfl rfl (U_move rfl) rfl rfl ?_
    refine Rsplit (t := 9) rfl (fun hg1 => ?_) (fun hg1 => ?_)
    · rw [hg1]
      refine Rs rfl rfl rfl rfl rfl ?_
      refine Rs rfl rfl rfl rfl rfl ?_
      refine Rs rfl rfl rfl rfl rfl ?_
      refine Rv rfl rfl rfl (U_pick_t rfl rfl) rfl rfl ?_
      refine Re rfl ?_
      exact joinTo id ⟨eD rfl rfl, eD rfl rfl, eD rfl rfl, trivial⟩ trivial rfl rfl rfl rfl (fun _ _ => rfl)
    · rw [hg1]
      refine Rv rfl rfl rfl (U_move rfl) rfl rfl ?_
      refine Rv rfl rfl rfl (U_call rfl rfl (isMo_p b) rfl) rfl rfl ?_
      refine Rv rfl rfl rfl (U_not rfl) rfl rfl ?_
      refine Rv rfl rfl rfl (U_pick_f rfl rfl) rfl rfl ?_
      refine Re rfl ?_
      exact joinTo id ⟨eD rfl rfl, eD rfl rfl, eD rfl rfl, trivial⟩ trivial rfl rfl rfl rfl (fun _ _ => rfl)
  refine thenQ_n ?_
  refine Wcond rfl rfl (fun hc0 => ?_) (fun hc0 => ?_)
  · have hn : ¬ (isMo a = true ∧ isMo b = true) := by intro h; simp [h.1, h.2] at hc0
    rw [aftR, aftE, if_neg hn, if_neg hn]
    refine W_seq rfl ?_
    refine W_reg rfl ?_
    refine Rv rfl rfl rfl (U_assign rfl) rfl rfl ?_
    refine Rv rfl rfl rfl (U_assign rfl) rfl rfl ?_
    refine Re rfl ?_
    refine thenQ_n ?_
    refine W_ret rfl ?_
    refine thenQ_r ?_
    exact retL (rlT rfl (rlT rfl rl0)) (by first | rfl | (simp only [packA]; rfl; first | done | rfl)) rfl
  · have hc0' := Bool.eq_false_iff.1 hc0
    have hn : isMo a = true ∧ isMo b = true := by simpa using hc0
    rw [aftR, aftE, if_pos hn, if_pos hn]
    have ha := isMo_iff.1 hn.1
    have hb := isMo_iff.1 hn.2
    refine W_skip rfl ?_
    refine thenQ_n ?_
    refine W_seq rfl ?_
    refine W_reg rfl ?_
    refine Rv rfl rfl rfl (U_move rfl) rfl rfl ?_
    refine Rv rfl rfl rfl (U_move rfl) rfl rfl ?_
    refine Rv rfl rfl rfl (U_call rfl rfl (afterR_p a b (by first | assumption | omega) (by first | assumption | omega)) rfl) rfl rfl ?_
    refine Rv rfl rfl rfl (U_assign rfl) rfl rfl ?_
    refine Rv rfl rfl rfl (U_assign rfl) rfl rfl ?_
    refine Re rfl ?_
    refine thenQ_n ?_
    refine W_ret rfl ?_
    exact retL (rlT rfl (rlT rfl rl0)) (by first | rfl | (simp only [packA]; rfl; first | done | rfl)) rfl
theorem inverseA_p (m : Int) : Pure Try.prog 29 [i64 m] (.tup [i64 (invR m), i64 (invE m)]) := by
  refine pure_of_body Try.func29 (c := body Try.f29) rfl (by simp [Try.ntmps29]) fun w0 Φ0 => ?_
  refine W_seq rfl ?_
  refine W_reg rfl ?_
  refine Rv rfl rfl rfl (U_assign rfl) rfl rfl ?_
  refine Rv rfl rfl rfl (U_assign rfl) rfl rfl ?_
  refine Re rfl ?_
  refine thenQ_n ?_
  refine W_seq rfl ?_
  refine W_seq rfl ?_
  refine W_reg rfl ?_
  refine Rv rfl rfl rfl (U_move rfl) rfl rfl ?_
  refine Rv rfl rfl rfl (U_buildSliceF (by rfl) (by decide) rfl rfl rfl) rfl rfl ?_
  refine Rv rfl rfl rfl (U_call rfl rfl (within_p 0 7 [m] (some 1) (by first | assumption | omega | (simp; done) | (simp; omega))) rfl) rfl rfl ?_
  refine Rv rfl rfl rfl (U_not rfl) rfl rfl ?_
  refine Re rfl ?_
  refine thenQ_n ?_
  refine Wcond rfl rfl (fun hc0 => ?_) (fun hc0 => ?_)
  · rw [inL_mo] at hc0
    have hn : ¬ isMo m = true := by simpa using hc0
    rw [invR, invE, if_neg hn, if_neg hn]
    refine W_seq rfl ?_
    refine W_reg rfl ?_
    refine Rv rfl rfl rfl (U_assign rfl) rfl rfl ?_
    refine Rv rfl rfl rfl (U_assign rfl) rfl rfl ?_
    refine Re rfl ?_
    refine thenQ_n ?_
    refine W_ret rfl ?_
    refine thenQ_r ?_
    exact retL (rlT rfl (rlT rfl rl0)) (by first | rfl | (simp only [packA]; rfl; first | done | rfl)) rfl
  · have hc0' := Bool.eq_false_iff.1 hc0
    rw [inL_mo] at hc0
    have hn : isMo m = true := by simpa using hc0
    rw [invR, invE, if_pos hn, if_pos hn]
    have hm := isMo_iff.1 hn
    refine W_skip rfl ?_
    refine thenQ_n ?_
    refine W_seq rfl ?_
    refine W_seq rfl ?_
    refine W_reg rfl ?_
    refine Rv rfl rfl rfl (U_move rfl) rfl rfl ?_
    refine Rv rfl rfl rfl (U_lss rfl rfl) rfl rfl ?_
    refine Re rfl ?_
    refine thenQ_n ?_
    refine WcondP rfl rfl (fun hc1 => ?_) (fun hc1 => ?_)
    · rw [invM, if_neg (by omega)]
      refine W_seq rfl ?_
      refine W_reg rfl ?_
      refine Rv rfl rfl rfl (U_move rfl) rfl rfl ?_
      refine Rv rfl rfl rfl (U_sub rfl rfl (w64 (by omega) (by omega))) rfl rfl ?_
      refine Rv rfl rfl rfl (U_rem (c := ((4 - m) % 4)) rfl rfl (by omega) (tmodP (by omega))) rfl rfl ?_
      refine Rv rfl rfl rfl (U_assign rfl) rfl rfl ?_
      refine Rv rfl rfl rfl (U_assign rfl) rfl rfl ?_
      refine Re rfl ?_
      refine thenQ_n ?_
      refine W_ret rfl ?_
      refine thenQ_r ?_
      exact retL (rlT rfl (rlT rfl rl0)) (by first | rfl | (simp only [packA]; rfl; first | done | rfl)) rfl
    · rw [invM, if_pos (by omega)]
      refine W_skip rfl ?_
      refine thenQ_n ?_
      refine W_seq rfl ?_
      refine W_reg rfl ?_
      refine Rv rfl rfl rfl (U_move rfl) rfl rfl ?_
      refine Rv rfl rfl rfl (U_assign rfl) rfl rfl ?_
      refine Rv rfl rfl rfl (U_assign rfl) rfl rfl ?_
      refine Re rfl ?_
      refine thenQ_n ?_
      refine W_ret rfl ?_
      exact retL (rlT rfl (rlT rfl rl0)) (by first | rfl | (simp only [packA]; rfl; first | done | rfl)) rfl
theorem inverseAR_p (m : Int) : Pure Try.prog 30 [i64 m] (.tup [i64 (invR m), i64 (invE m)]) := by
  refine pure_of_body Try.func30 (c := body Try.f30) rfl (by simp [Try.ntmps30]) fun w0 Φ0 => ?_
  refine W_seq rfl ?_
  refine W_reg rfl ?_
  refine Rv rfl rfl rfl (U_assign rfl) rfl rfl ?_
  refine Rv rfl rfl rfl (U_assign rfl) rfl rfl ?_
  refine Re rfl ?_
  refine thenQ_n ?_
  refine W_seq rfl ?_
  refine W_seq rfl ?_
  refine W_reg rfl ?_
  refine Rv rfl rfl rfl (U_move rfl) rfl rfl ?_
  refine Rv rfl rfl rfl (U_call rfl rfl (isMo_p m) rfl) rfl rfl ?_
  refine Rv rfl rfl rfl (U_not rfl) rfl rfl ?_
  refine Re rfl ?_
  refine thenQ_n ?_
  refine Wcond rfl rfl (fun hc0 => ?_) (fun hc0 => ?_)
  · have hn : ¬ isMo m = true := by simpa using hc0
    rw [invR, invE, if_neg hn, if_neg hn]
    refine W_seq rfl ?_
    refine W_reg rfl ?_
    refine Rv rfl rfl rfl (U_assign rfl) rfl rfl ?_
    refine Rv rfl rfl rfl (U_assign rfl) rfl rfl ?_
    refine Re rfl ?_
    refine thenQ_n ?_
    refine W_ret rfl ?_
    refine thenQ_r ?_
    exact retL (rlT rfl (rlT rfl rl0)) (by first | rfl | (simp only [packA]; exact (inv_none hm fun j hj => hi0_1 j (by omega)).elim; first | done | rfl)) rfl
  · have hc0' := Bool.eq_false_iff.1 hc0
    have hn : isMo m = true := by simpa using hc0
    rw [invR, invE, if_pos hn, if_pos hn]
    have hm := isMo_iff.1 hn
    refine W_skip rfl ?_
    refine thenQ_n ?_
    refine W_seq rfl ?_
    refine W_seq rfl ?_
    refine W_reg rfl ?_
    refine Rv rfl rfl rfl (U_assign rfl) rfl rfl ?_
    refine Re rfl ?_
    refine thenQ_n ?_
    refine W_block rfl ?_
    refine LoopTo (T' := [(0, i64 m), (4, i64 ((0 : Nat) : Int))]) (H' := []) (n := 0) rfl (fun mz_ qz_ => ∃ (k : Nat), k ≤ 8 ∧ (∀ j : Nat, j < k → ¬ aft m j = 0) ∧ mz_ = 8 - k ∧ qz_ = ⟨[(0, i64 m), (4, i64 ((k : Nat) : Int))], [], 0, []⟩) ⟨0, (by omega), (fun j hj => absurd hj (Nat.not_lt_zero _)), rfl, rfl⟩ id ⟨eD rfl rfl, eD rfl rfl, trivial⟩ trivial rfl rfl rfl rfl (fun _ _ => rfl) ?_
    rintro _ _ ⟨k, hi0_0, hi0_1, rfl, rfl⟩
    refine W_seq rfl ?_
    refine W_seq rfl ?_
    refine W_reg rfl ?_
    refine Rv rfl rfl rfl (U_move rfl) rfl rfl ?_
    refine Rv rfl rfl rfl (U_lss rfl rfl) rfl rfl ?_
    refine Re rfl ?_
    refine thenQ_n ?_
    refine WcondP rfl rfl (fun hc1 => ?_) (fun hc1 => ?_)
    · refine W_skip rfl ?_
      refine thenQ_n ?_
      refine W_seq rfl ?_
      refine W_block rfl ?_
      refine W_seq rfl ?_
      refine W_reg rfl ?_
      refine Rv rfl rfl rfl (U_move rfl) rfl rfl ?_
      refine Rv rfl rfl rfl (U_move rfl) rfl rfl ?_
      refine Rv rfl rfl rfl (U_call rfl rfl (afterR_p m ((k : Nat) : Int) (by first | assumption | omega) (by first | assumption | omega)) rfl) rfl rfl ?_
      refine Rv rfl rfl rfl (U_eql rfl rfl) rfl rfl ?_
      refine Re rfl ?_
      refine thenQ_n ?_
      refine WcondP rfl rfl (fun hc2 => ?_) (fun hc2 => ?_)
      · rw [inv_first hm (by omega) hc2]
        refine W_seq rfl ?_
        refine W_reg rfl ?_
        refine Rv rfl rfl rfl (U_move rfl) rfl rfl ?_
        refine Rv rfl rfl rfl (U_assign rfl) rfl rfl ?_
        refine Rv rfl rfl rfl (U_assign rfl) rfl rfl ?_
        refine Re rfl ?_
        refine thenQ_n ?_
        refine W_ret rfl ?_
        refine blkQ_r ?_
        refine thenQ_r ?_
        refine thenQ_r ?_
        refine blkQ_r ?_
        refine thenQ_r ?_
        exact retL (rlT rfl (rlT rfl rl0)) (by first | rfl | (simp only [packA]; exact (inv_none hm fun j hj => hi0_1 j (by omega)).elim; first | done | rfl)) rfl
      · refine W_skip rfl ?_
        refine blkQ_n ?_
        refine thenQ_n ?_
        refine W_reg rfl ?_
        refine Rv rfl rfl rfl (U_move rfl) rfl rfl ?_
        refine Rv rfl rfl rfl (U_add rfl rfl (w64e (m := ((k + 1 : Nat) : Int)) (by omega) (by omega) (by omega))) rfl rfl ?_
        refine Rv rfl rfl rfl (U_assign rfl) rfl rfl ?_
        refine Re rfl ?_
        refine thenQ_n ?_
        exact againTo (T' := [(0, i64 m), (4, i64 (((k + 1) : Nat) : Int))]) (H' := []) (n := 0) (8 - (k + 1)) ⟨k + 1, (by omega), (by intro j hj; rcases Nat.lt_succ_iff_lt_or_eq.1 hj with h | rfl; exact hi0_1 j h; exact hc2), rfl, rfl⟩ (by omega) id ⟨eD rfl rfl, eD rfl rfl, trivial⟩ trivial rfl rfl rfl rfl (fun _ _ => rfl)
    · refine W_exit rfl ?_
      refine thenQ_x ?_
      refine thenQ_x ?_
      refine blkQ_x rfl ?_
      refine thenQ_n ?_
      refine W_seq rfl ?_
      refine W_reg rfl ?_
      refine Rv rfl rfl rfl (U_assign rfl) rfl rfl ?_
      refine Rv rfl rfl rfl (U_assign rfl) rfl rfl ?_
      refine Re rfl ?_
      refine thenQ_n ?_
      refine W_ret rfl ?_
      exact retL (rlT rfl (rlT rfl rl0)) (by first | rfl | (simp only [packA]; exact (inv_none hm fun j hj => hi0_1 j (by omega)).elim; first | done | rfl)) rfl
/-- What is handed out of kinds: nothing, if these are not as described. -/
noncomputable def reaR (ks : List Int) : List Int := if chkK ks = 0 then reachedQ ks else []
noncomputable def heiR (ks : List Int) : List Nat := if chkK ks = 0 then heiQ ks else []
theorem chkK_ok {ks : List Int} (h : chkK ks = 0) : okK 0 ks = true := by
  unfold chkK at h
  split at h
  · assumption
  · cases h
theorem okK_len {ks : List Int} (h : okK 0 ks = true) : ks.length ≤ 8 := by
  have h1 : (allK.all fun l => decide (l.length ≤ 8)) = true := by decide +kernel
  have := List.all_eq_true.1 h1 ks (okK_all h); simpa using this
abbrev natsA (l : List Nat) (c : Option Nat) : AV := .ros (l.map n64) l.length c
theorem le_len {cs : List AV} {n m : Nat} {c : Option Nat} (h : n = m) : AV.le (.ros cs n c) (.ros cs m none) := h ▸ le_cap
theorem reachedA_p (ks : List Int) (c : Option Nat) (hl : ks.length ≤ 1000000) : Pure Try.prog 33 [intsA ks c] (.tup [intsA (reaR ks) none, i64 (chkK ks)]) := by
  refine pure_of_body Try.func33 (c := body Try.f33) rfl (by simp [Try.ntmps33]) fun w0 Φ0 => ?_
  refine W_seq rfl ?_
  refine W_reg rfl ?_
  refine Rv rfl rfl rfl (U_assign rfl) rfl rfl ?_
  refine Rv rfl rfl rfl (U_assign rfl) rfl rfl ?_
  refine Re rfl ?_
  refine thenQ_n ?_
  refine W_seq rfl ?_
  refine W_seq rfl ?_
  refine W_reg rfl ?_
  refine Rv rfl rfl rfl (U_move rfl) rfl rfl ?_
  refine Rv rfl rfl rfl (U_call rfl rfl (chkK_p ks c (by first | assumption | omega)) rfl) rfl rfl ?_
  refine Rv rfl rfl rfl (U_assign rfl) rfl rfl ?_
  refine Re rfl ?_
  refine thenQ_n ?_
  refine W_seq rfl ?_
  refine W_reg rfl ?_
  refine Rv rfl rfl rfl (U_move rfl) rfl rfl ?_
  refine Rv rfl rfl rfl (U_neq rfl rfl) rfl rfl ?_
  refine Re rfl ?_
  refine thenQ_n ?_
  refine WcondP rfl rfl (fun hc0 => ?_) (fun hc0 => ?_)
  · have hke := hc0
    refine W_seq rfl ?_
    refine W_reg rfl ?_
    refine Rv rfl rfl rfl (U_move rfl) rfl rfl ?_
    refine Rv rfl rfl rfl (U_assign rfl) rfl rfl ?_
    refine Rv rfl rfl rfl (U_assign rfl) rfl rfl ?_
    refine Re rfl ?_
    refine thenQ_n ?_
    refine WweakT (j := 2) rfl (le_nils (cs := [])) ?_
    refine W_ret rfl ?_
    refine thenQ_r ?_
    exact retL (rlT rfl (rlT rfl rl0)) (by first | rfl | (simp only [packA]; rw [reaR, if_neg hc0]; first | done | rfl) | (simp only [packA]; rw [reaR, if_pos hc0, hc0]; first | done | rfl)) rfl
  · rw [Decidable.not_not] at hc0
    have hok := chkK_ok hc0
    refine W_skip rfl ?_
    refine thenQ_n ?_
    refine W_seq rfl ?_
    refine W_reg rfl ?_
    refine Rv rfl rfl rfl (U_move rfl) rfl rfl ?_
    refine Rv rfl rfl rfl (U_call rfl rfl (reached_p ks c (by first | assumption | omega) hok) rfl) rfl rfl ?_
    refine Rv rfl rfl rfl (U_assign rfl) rfl rfl ?_
    refine Rv rfl rfl rfl (U_assign rfl) rfl rfl ?_
    refine Re rfl ?_
    refine thenQ_n ?_
    refine W_ret rfl ?_
    exact retL (rlT rfl (rlT rfl rl0)) (by first | rfl | (simp only [packA]; rw [reaR, if_neg hc0]; first | done | rfl) | (simp only [packA]; rw [reaR, if_pos hc0, hc0]; first | done | rfl)) rfl
theorem reachedAR_p (ks : List Int) (c : Option Nat) (hl : ks.length ≤ 1000000) : Pure Try.prog 34 [intsA ks c] (.tup [intsA (reaR ks) none, i64 (chkK ks)]) := by
  refine pure_of_body Try.func34 (c := body Try.f34) rfl (by simp [Try.ntmps34]) fun w0 Φ0 => ?_
  refine W_seq rfl ?_
  refine W_reg rfl ?_
  refine Rv rfl rfl rfl (U_assign rfl) rfl rfl ?_
  refine Rv rfl rfl rfl (U_assign rfl) rfl rfl ?_
  refine Re rfl ?_
  refine thenQ_n ?_
  refine W_seq rfl ?_
  refine W_seq rfl ?_
  refine W_reg rfl ?_
  refine Rv rfl rfl rfl (U_move rfl) rfl rfl ?_
  refine Rv rfl rfl rfl (U_call rfl rfl (chkKR_p ks c (by first | assumption | omega)) rfl) rfl rfl ?_
  refine Rv rfl rfl rfl (U_neq rfl rfl) rfl rfl ?_
  refine Re rfl ?_
  refine thenQ_n ?_
  refine WcondP rfl rfl (fun hc0 => ?_) (fun hc0 => ?_)
  · have hke := hc0
    refine W_seq rfl ?_
    refine W_reg rfl ?_
    refine Rv rfl rfl rfl (U_move rfl) rfl rfl ?_
    refine Rv rfl rfl rfl (U_call rfl rfl (chkKR_p ks c (by first | assumption | omega)) rfl) rfl rfl ?_
    refine Rv rfl rfl rfl (U_assign rfl) rfl rfl ?_
    refine Rv rfl rfl rfl (U_assign rfl) rfl rfl ?_
    refine Re rfl ?_
    refine thenQ_n ?_
    refine WweakT (j := 2) rfl (le_nils (cs := [])) ?_
    refine W_ret rfl ?_
    refine thenQ_r ?_
    exact retL (rlT rfl (rlT rfl rl0)) (by first | rfl | (simp only [packA]; rw [reaR, if_neg hc0]; first | done | rfl) | (simp only [packA]; rw [reaR, if_pos hc0, hc0]; first | done | rfl)) rfl
  · rw [Decidable.not_not] at hc0
    have hok := chkK_ok hc0
    refine W_skip rfl ?_
    refine thenQ_n ?_
    refine W_seq rfl ?_
    refine W_reg rfl ?_
    refine Rv rfl rfl rfl (U_move rfl) rfl rfl ?_
    refine Rv rfl rfl rfl (U_call rfl rfl (reachedR_p ks c (by first | assumption | omega) hok) rfl) rfl rfl ?_
    refine Rv rfl rfl rfl (U_assign rfl) rfl rfl ?_
    refine Rv rfl rfl rfl (U_assign rfl) rfl rfl ?_
    refine Re rfl ?_
    refine thenQ_n ?_
    refine W_ret rfl ?_
    exact retL (rlT rfl (rlT rfl rl0)) (by first | rfl | (simp only [packA]; rw [reaR, if_neg hc0]; first | done | rfl) | (simp only [packA]; rw [reaR, if_pos hc0, hc0]; first | done | rfl)) rfl
theorem heightsA_p (ks : List Int) (c : Option Nat) (hl : ks.length ≤ 1000000) : Pure Try.prog 39 [intsA ks c] (.tup [natsA (heiR ks) none, i64 (chkK ks)]) := by
  refine pure_of_body Try.func39 (c := body Try.f39) rfl (by simp [Try.ntmps39]) fun w0 Φ0 => ?_
  refine W_seq rfl ?_
  refine W_reg rfl ?_
  refine Rv rfl rfl rfl (U_assign rfl) rfl rfl ?_
  refine Rv rfl rfl rfl (U_assign rfl) rfl rfl ?_
  refine Re rfl ?_
  refine thenQ_n ?_
  refine W_seq rfl ?_
  refine W_seq rfl ?_
  refine W_reg rfl ?_
  refine Rv rfl rfl rfl (U_move rfl) rfl rfl ?_
  refine Rv rfl rfl rfl (U_call rfl rfl (chkK_p ks c (by first | assumption | omega)) rfl) rfl rfl ?_
  refine Rv rfl rfl rfl (U_assign rfl) rfl rfl ?_
  refine Re rfl ?_
  refine thenQ_n ?_
  refine W_seq rfl ?_
  refine W_reg rfl ?_
  refine Rv rfl rfl rfl (U_move rfl) rfl rfl ?_
  refine Rv rfl rfl rfl (U_neq rfl rfl) rfl rfl ?_
  refine Re rfl ?_
  refine thenQ_n ?_
  refine WcondP rfl rfl (fun hc0 => ?_) (fun hc0 => ?_)
  · refine W_seq rfl ?_
    refine W_reg rfl ?_
    refine Rv rfl rfl rfl (U_move rfl) rfl rfl ?_
    refine Rv rfl rfl rfl (U_assign rfl) rfl rfl ?_
    refine Rv rfl rfl rfl (U_assign rfl) rfl rfl ?_
    refine Re rfl ?_
    refine thenQ_n ?_
    refine WweakT (j := 2) rfl (le_nils (cs := [])) ?_
    refine W_ret rfl ?_
    refine thenQ_r ?_
    exact retL (rlT rfl (rlT rfl rl0)) (by first | rfl | (simp only [packA]; rw [heiR, if_neg hc0]; first | done | rfl) | (simp only [packA]; rw [heiR, if_pos hc0, hc0]; show AV.tup [.ros ((heiQ ks).map n64) 8 none, i64 0] = .tup [.ros ((heiQ ks).map n64) (heiQ ks).length none, i64 0]; rw [h8]; first | done | rfl)) rfl
  · rw [Decidable.not_not] at hc0
    have hok := chkK_ok hc0
    have h8 := (heiQ_ok (ks := ks)).len
    refine W_skip rfl ?_
    refine thenQ_n ?_
    refine W_seq rfl ?_
    refine W_reg rfl ?_
    refine Rv rfl rfl rfl (U_move rfl) rfl rfl ?_
    refine Rv rfl rfl rfl (U_call rfl rfl (heights_p ks c (by first | assumption | omega) hok) rfl) rfl rfl ?_
    refine Ra rfl rfl rfl (U_alloc) rfl rfl rfl ?_
    refine Rn rfl rfl rfl (U_storeAll rfl rfl rfl (by simp; omega) rfl (allOne (fun _ => rfl) _)) rfl ?_
    refine Re rfl ?_
    refine thenQ_n ?_
    refine WfrN 0 rfl (mapD (fun _ => rfl) _) (T' := [(5, .rop ((heiQ ks).map n64) 0)]) (H' := []) ⟨⟨_, rfl, rfl⟩, trivial⟩ trivial ?_
    refine W_seq rfl ?_
    refine W_reg rfl ?_
    refine Ra rfl rfl rfl (U_mkL (n := 8) (cs' := [i64 0, i64 0, i64 0, i64 0, i64 0, i64 0, i64 0, i64 0]) rfl rfl rfl (by decide) rfl) rfl rfl rfl ?_
    refine Rv rfl rfl rfl (U_assign rfl) rfl rfl ?_
    refine Re rfl ?_
    refine thenQ_n ?_
    refine W_seq rfl ?_
    refine W_reg rfl ?_
    refine Rv rfl rfl rfl (U_move rfl) rfl rfl ?_
    refine Rv rfl rfl rfl (U_sliceAR rfl rfl rfl (by decide) (by decide) (by decide) rfl) rfl rfl ?_
    refine Ra rfl rfl rfl (U_copy (z := 1) (news := (heiQ ks).map n64) (cs' := (heiQ ks).map n64) rfl rfl rfl (by decide) (srcR (by simp; omega)) (allM (fun _ => rfl) _) (setC_all (by simp; omega))) rfl rfl rfl ?_
    refine Re rfl ?_
    refine thenQ_n ?_
    refine W_seq rfl ?_
    refine W_reg rfl ?_
    refine Rv rfl rfl rfl (U_move rfl) rfl rfl ?_
    refine Rv rfl rfl rfl (U_assign rfl) rfl rfl ?_
    refine Rv rfl rfl rfl (U_assign rfl) rfl rfl ?_
    refine Re rfl ?_
    refine thenQ_n ?_
    refine WfrN 1 rfl (mapD (fun _ => rfl) _) (T' := [(2, .ros ((heiQ ks).map n64) 8 (some 8)), (3, i64 0)]) (H' := []) ⟨⟨_, rfl, rfl⟩, ⟨_, rfl, rfl⟩, trivial⟩ trivial ?_
    refine WweakT (j := 2) rfl le_cap ?_
    refine W_ret rfl ?_
    exact retL (rlT rfl (rlT rfl rl0)) (by first | rfl | (simp only [packA]; rw [heiR, if_neg hc0]; first | done | rfl) | (simp only [packA]; rw [heiR, if_pos hc0, hc0]; show AV.tup [.ros ((heiQ ks).map n64) 8 none, i64 0] = .tup [.ros ((heiQ ks).map n64) (heiQ ks).length none, i64 0]; rw [h8]; first | done | rfl)) rfl
theorem heightsAR_p (ks : List Int) (c : Option Nat) (hl : ks.length ≤ 1000000) : Pure Try.prog 40 [intsA ks c] (.tup [natsA (heiR ks) none, i64 (chkK ks)]) := by
  refine pure_of_body Try.func40 (c := body Try.f40) rfl (by simp [Try.ntmps40]) fun w0 Φ0 => ?_
  refine W_seq rfl ?_
  refine W_reg rfl ?_
  refine Rv rfl rfl rfl (U_assign rfl) rfl rfl ?_
  refine Rv rfl rfl rfl (U_assign rfl) rfl rfl ?_
  refine Re rfl ?_
  refine thenQ_n ?_
  refine W_seq rfl ?_
  refine W_seq rfl ?_
  refine W_reg rfl ?_
  refine Rv rfl rfl rfl (U_move rfl) rfl rfl ?_
  refine Rv rfl rfl rfl (U_call rfl rfl (chkKR_p ks c (by first | assumption | omega)) rfl) rfl rfl ?_
  refine Rv rfl rfl rfl (U_neq rfl rfl) rfl rfl ?_
  refine Re rfl ?_
  refine thenQ_n ?_
  refine WcondP rfl rfl (fun hc0 => ?_) (fun hc0 => ?_)
  · refine W_seq rfl ?_
    refine W_reg rfl ?_
    refine Rv rfl rfl rfl (U_move rfl) rfl rfl ?_
    refine Rv rfl rfl rfl (U_call rfl rfl (chkKR_p ks c (by first | assumption | omega)) rfl) rfl rfl ?_
    refine Rv rfl rfl rfl (U_assign rfl) rfl rfl ?_
    refine Rv rfl rfl rfl (U_assign rfl) rfl rfl ?_
    refine Re rfl ?_
    refine thenQ_n ?_
    refine WweakT (j := 2) rfl (le_nils (cs := [])) ?_
    refine W_ret rfl ?_
    refine thenQ_r ?_
    exact retL (rlT rfl (rlT rfl rl0)) (by first | rfl | (simp only [packA]; rw [heiR, if_neg hc0]; first | done | rfl) | (simp only [packA]; rw [heiR, if_pos hc0, hc0]; show AV.tup [.ros ((heiQ ks).map n64) 8 none, i64 0] = .tup [.ros ((heiQ ks).map n64) (heiQ ks).length none, i64 0]; rw [h8]; first | done | rfl)) rfl
  · rw [Decidable.not_not] at hc0
    have hok := chkK_ok hc0
    have h8 := (heiQ_ok (ks := ks)).len
    refine W_skip rfl ?_
    refine thenQ_n ?_
    refine W_seq rfl ?_
    refine W_reg rfl ?_
    refine Rv rfl rfl rfl (U_move rfl) rfl rfl ?_
    refine Rv rfl rfl rfl (U_call rfl rfl (heightsR_p ks c (by first | assumption | omega) hok) rfl) rfl rfl ?_
    refine Rv rfl rfl rfl (U_assign rfl) rfl rfl ?_
    refine Rv rfl rfl rfl (U_assign rfl) rfl rfl ?_
    refine Re rfl ?_
    refine thenQ_n ?_
    refine WweakT (j := 2) rfl le_cap ?_
    refine W_ret rfl ?_
    exact retL (rlT rfl (rlT rfl rl0)) (by first | rfl | (simp only [packA]; rw [heiR, if_neg hc0]; first | done | rfl) | (simp only [packA]; rw [heiR, if_pos hc0, hc0]; show AV.tup [.ros ((heiQ ks).map n64) 8 none, i64 0] = .tup [.ros ((heiQ ks).map n64) (heiQ ks).length none, i64 0]; rw [h8]; first | done | rfl)) rfl
end Go.Proofs.Ythoodfiacfmhgaa
end

section
/- Contracts of package plate: motions under which plates stay, plans. -/
namespace Go.Proofs.Ythoodfiacfmhgaa
set_option maxRecDepth 20000
open Go.AE
theorem open0_p (p : Pl) (c : Option Nat) (hl : p.ds.length ≤ 1000000) : Pure Try.prog 61 [plA p c, .nils] (.tup [if chkP p = 0 then .rop [i64 p.n, intsA p.ds c] 0 else .nilp, i64 (chkP p)]) := by
  have h := (open_p p c hl [] none (by simp)).weak (a := [plA p c, .nils]) (leL_cons (le_refl _) (leL_cons (le_nils (cs := [])) (leL_refl _)))
  rw [opE0] at h; exact h
/-- The motions under which a plate stays. -/
noncomputable def staysP (p : Pl) : List Int := filt (fun m => decide ((movP p m).ds = p.ds)) 8
noncomputable def staR (p : Pl) : List Int := if chkP p = 0 then staysP p else []
theorem movP_len {p : Pl} {m : Int} : (movP p m).ds.length = p.ds.length := movD_len
theorem stays_p (p : Pl) (c : Option Nat) (hl : p.ds.length ≤ 1000000) : Pure Try.prog 21 [plA p c] (.tup [intsA (staR p) none, i64 (chkP p)]) := by
  refine pure_of_body Try.func21 (c := body Try.f21) rfl (by simp [Try.ntmps21]) fun w0 Φ0 => ?_
  refine W_seq rfl ?_
  refine W_reg rfl ?_
  refine Rv rfl rfl rfl (U_boxF rfl rfl rfl) rfl rfl ?_
  refine Rv rfl rfl rfl (U_assign rfl) rfl rfl ?_
  refine Rv rfl rfl rfl (U_assign rfl) rfl rfl ?_
  refine Re rfl ?_
  refine thenQ_n ?_
  refine W_seq rfl ?_
  refine W_reg rfl ?_
  refine Rv rfl rfl rfl (U_load2 rfl rfl rfl rfl) rfl rfl ?_
  refine Rv rfl rfl rfl (U_call rfl rfl (open0_p p c (by first | assumption | omega)) rfl) rfl rfl ?_
  refine Rv rfl rfl rfl (U_move rfl) rfl rfl ?_
  refine Rv rfl rfl rfl (U_extract rfl rfl) rfl rfl ?_
  refine Rv rfl rfl rfl (U_extract rfl rfl) rfl rfl ?_
  refine Rv rfl rfl rfl (U_assign rfl) rfl rfl ?_
  refine Rv rfl rfl rfl (U_assign rfl) rfl rfl ?_
  refine Re rfl ?_
  refine thenQ_n ?_
  refine W_seq rfl ?_
  refine W_seq rfl ?_
  refine W_reg rfl ?_
  refine Rv rfl rfl rfl (U_move rfl) rfl rfl ?_
  refine Rv rfl rfl rfl (U_neq rfl rfl) rfl rfl ?_
  refine Re rfl ?_
  refine thenQ_n ?_
  refine WcondP rfl rfl (fun hc0 => ?_) (fun hc0 => ?_)
  · simp only [if_neg hc0]
    refine W_seq rfl ?_
    refine W_reg rfl ?_
    refine Rv rfl rfl rfl (U_move rfl) rfl rfl ?_
    refine Rv rfl rfl rfl (U_assign rfl) rfl rfl ?_
    refine Rv rfl rfl rfl (U_assign rfl) rfl rfl ?_
    refine Re rfl ?_
    refine thenQ_n ?_
    refine WweakT (j := 2) rfl (le_nils (cs := [])) ?_
    refine W_ret rfl ?_
    refine thenQ_r ?_
    exact retL (rlT rfl (rlT rfl rl0)) (by first | rfl | (simp only [packA]; rw [staR, if_neg hc0]; first | done | rfl) | (simp only [packA]; rw [staR, if_pos hc0, hi0_1, show k = 8 by omega, hc0]; rfl; first | done | rfl)) rfl
  · rw [Decidable.not_not] at hc0
    simp only [if_pos hc0]
    obtain ⟨N, hv⟩ := vp_of hc0
    refine W_skip rfl ?_
    refine thenQ_n ?_
    refine W_seq rfl ?_
    refine W_reg rfl ?_
    refine Rv rfl rfl rfl (U_assign rfl) rfl rfl ?_
    refine Re rfl ?_
    refine thenQ_n ?_
    refine W_seq rfl ?_
    refine W_seq rfl ?_
    refine W_reg rfl ?_
    refine Rv rfl rfl rfl (U_move rfl) rfl rfl ?_
    refine Re rfl ?_
    refine thenQ_n ?_
    refine W_block rfl ?_
    refine LoopTo (T' := [(4, .rop [i64 p.n, .ros (p.ds.map i64) p.ds.length c] 0), (6, .out 0 [].length 1), (16, i64 ((0 : Nat) : Int))]) (H' := [(0, outB ([].map i64) 3 [].length)]) (n := 1) rfl (fun mz_ qz_ => ∃ (k : Nat) (l : List Int), k ≤ 8 ∧ (l = filt (fun m => decide ((movP p m).ds = p.ds)) k) ∧ mz_ = 8 - k ∧ qz_ = ⟨[(4, .rop [i64 p.n, .ros (p.ds.map i64) p.ds.length c] 0), (6, .out 0 l.length 1), (16, i64 ((k : Nat) : Int))], [(0, outB (l.map i64) 3 l.length)], 1, []⟩) ⟨0, [], (by omega), rfl, rfl, rfl⟩ id ⟨eD rfl rfl, eW rfl le_nils_out rfl, eD rfl rfl, trivial⟩ ⟨rO0 rfl, trivial⟩ rfl rfl rfl rfl (fun _ _ => rfl) ?_
    rintro _ _ ⟨k, l, hi0_0, hi0_1, rfl, rfl⟩
    have hll : l.length ≤ 8 := by rw [hi0_1]; exact Nat.le_trans filt_len (by omega)
    refine W_seq rfl ?_
    refine W_reg rfl ?_
    refine Rv rfl rfl rfl (U_lss rfl rfl) rfl rfl ?_
    refine Re rfl ?_
    refine thenQ_n ?_
    refine W_seq rfl ?_
    refine WcondP rfl rfl (fun hc1 => ?_) (fun hc1 => ?_)
    · have hkm : (0 : Int) ≤ (k : Int) ∧ (k : Int) < 8 := by omega
      have hml : (movP p (k : Int)).ds.length ≤ 1000000 := by rw [movP_len]; exact hl
      refine W_skip rfl ?_
      refine thenQ_n ?_
      refine W_seq rfl ?_
      refine W_block rfl ?_
      refine W_seq rfl ?_
      refine W_reg rfl ?_
      refine Rv rfl rfl rfl (U_move rfl) rfl rfl ?_
      refine Rv rfl rfl rfl (U_assign rfl) rfl rfl ?_
      refine Re rfl ?_
      refine thenQ_n ?_
      refine W_seq rfl ?_
      refine Wdraw rfl (by kernel_rfl) (by kernel_rfl) ?_
      refine Dv rfl rfl rfl (U_move rfl) rfl rfl ?_
      refine Dv rfl rfl rfl (U_move rfl) rfl rfl ?_
      refine Dv rfl rfl rfl (U_call rfl rfl (moved_p p c N hv ((k : Nat) : Int) (by first | assumption | omega)) rfl) rfl rfl ?_
      refine Dv rfl rfl rfl (U_field rfl rfl) rfl rfl ?_
      refine Dv rfl rfl rfl (U_move rfl) rfl rfl ?_
      refine Dv rfl rfl rfl (U_nilCheckR rfl) rfl rfl ?_
      refine Dv rfl rfl rfl (U_fieldAddrR rfl) rfl rfl ?_
      refine Dv rfl rfl rfl (U_fieldAddrR rfl) rfl rfl ?_
      refine Dv rfl rfl rfl (U_load1 rfl rfl rfl) rfl rfl ?_
      refine Dv rfl rfl rfl (U_call rfl rfl (equal_p ((movP p ((k : Nat) : Int)).ds) p.ds (some (movP p ((k : Nat) : Int)).ds.length) c (by first | assumption | omega | (simp; done) | (simp; omega)) (by first | assumption | omega | (simp; done) | (simp; omega))) rfl) rfl rfl ?_
      refine Dr.nil rfl ?_
      refine thenQ_n ?_
      refine WcondP rfl rfl (fun hc2 => ?_) (fun hc2 => ?_)
      · refine W_reg rfl ?_
        refine Rv rfl rfl rfl (U_move rfl) rfl rfl ?_
        refine Rv rfl rfl rfl (U_move rfl) rfl rfl ?_
        refine Rv rfl rfl rfl (U_buildSliceF (by rfl) (by decide) rfl rfl rfl) rfl rfl ?_
        refine Ra rfl rfl rfl (U_appO (b := 0) (m := 0) (cs' := (l ++ [((k : Nat) : Int)]).map i64) (n' := (l ++ [((k : Nat) : Int)]).length) rfl rfl (by simp) rfl (map_len1 _) rfl rfl (by omega) (appM _ _) (len1 _ _)) rfl rfl rfl ?_
        refine Rv rfl rfl rfl (U_assign rfl) rfl rfl ?_
        refine Re rfl ?_
        refine blkQ_n ?_
        refine thenQ_n ?_
        refine W_reg rfl ?_
        refine Rv rfl rfl rfl (U_add rfl rfl (w64e (m := ((k + 1 : Nat) : Int)) (by omega) (by omega) (by omega))) rfl rfl ?_
        refine Rv rfl rfl rfl (U_move rfl) rfl rfl ?_
        refine Re rfl ?_
        refine thenQ_n ?_
        exact againTo (T' := [(4, .rop [i64 p.n, .ros (p.ds.map i64) p.ds.length c] 0), (6, .out 0 (l ++ [((k : Nat) : Int)]).length 1), (16, i64 (((k + 1) : Nat) : Int))]) (H' := [(0, outB ((l ++ [((k : Nat) : Int)]).map i64) 3 (l ++ [((k : Nat) : Int)]).length)]) (n := 1) (8 - (k + 1)) ⟨k + 1, l ++ [((k : Nat) : Int)], (by omega), (by first | (rw [filt_t (p := fun m => decide ((movP p m).ds = p.ds)) (by simpa using hc2), hi0_1]; done) | (rw [filt_f (p := fun m => decide ((movP p m).ds = p.ds)) (by simpa using hc2), hi0_1]; done)), rfl, rfl⟩ (by omega) (mapN [1]) ⟨eD rfl rfl, e_ rfl rfl, eD rfl rfl, trivial⟩ ⟨rO (mapD (fun _ => rfl) _) rfl rfl, trivial⟩ rfl rfl rfl rfl (fun _ h => absurd h (Nat.not_lt_zero _))
      · refine W_skip rfl ?_
        refine blkQ_n ?_
        refine thenQ_n ?_
        refine W_reg rfl ?_
        refine Rv rfl rfl rfl (U_add rfl rfl (w64e (m := ((k + 1 : Nat) : Int)) (by omega) (by omega) (by omega))) rfl rfl ?_
        refine Rv rfl rfl rfl (U_move rfl) rfl rfl ?_
        refine Re rfl ?_
        refine thenQ_n ?_
        exact againTo (T' := [(4, .rop [i64 p.n, .ros (p.ds.map i64) p.ds.length c] 0), (6, .out 0 l.length 1), (16, i64 (((k + 1) : Nat) : Int))]) (H' := [(0, outB (l.map i64) 3 l.length)]) (n := 1) (8 - (k + 1)) ⟨k + 1, l, (by omega), (by first | (rw [filt_t (p := fun m => decide ((movP p m).ds = p.ds)) (by simpa using hc2), hi0_1]; done) | (rw [filt_f (p := fun m => decide ((movP p m).ds = p.ds)) (by simpa using hc2), hi0_1]; done)), rfl, rfl⟩ (by omega) id ⟨eD rfl rfl, e_ rfl rfl, eD rfl rfl, trivial⟩ ⟨rO (mapD (fun _ => rfl) _) rfl rfl, trivial⟩ rfl rfl rfl rfl (fun _ _ => rfl)
    · refine W_exit rfl ?_
      refine thenQ_x ?_
      refine thenQ_x ?_
      refine blkQ_x rfl ?_
      refine thenQ_n ?_
      refine W_seq rfl ?_
      refine W_reg rfl ?_
      refine Rv rfl rfl rfl (U_move rfl) rfl rfl ?_
      refine Rv rfl rfl rfl (U_assign rfl) rfl rfl ?_
      refine Rv rfl rfl rfl (U_assign rfl) rfl rfl ?_
      refine Re rfl ?_
      refine thenQ_n ?_
      refine WfrO 0 (l.map i64) rfl (mapD (fun _ => rfl) _) (T' := [(2, .ros (l.map i64) l.length none), (3, i64 0)]) (H' := []) ⟨fO rfl, fD rfl rfl, trivial⟩ trivial ?_
      refine W_ret rfl ?_
      exact retL (rlT rfl (rlT rfl rl0)) (by first | rfl | (simp only [packA]; rw [staR, if_neg hc0]; first | done | rfl) | (simp only [packA]; rw [staR, if_pos hc0, hi0_1, show k = 8 by omega, hc0]; rfl; first | done | rfl)) rfl
theorem staysOf_p (p : Pl) (c : Option Nat) (hl : p.ds.length ≤ 1000000) (N : Nat) (hv : VP p N) : Pure Try.prog 64 [plA p c] (intsA (staysP p) none) := by
  refine pure_of_body Try.func64 (c := body Try.f64) rfl (by simp [Try.ntmps64]) fun w0 Φ0 => ?_
  refine W_seq rfl ?_
  refine W_reg rfl ?_
  refine Rv rfl rfl rfl (U_boxF rfl rfl rfl) rfl rfl ?_
  refine Rv rfl rfl rfl (U_assign rfl) rfl rfl ?_
  refine Re rfl ?_
  refine thenQ_n ?_
  refine W_seq rfl ?_
  refine W_reg rfl ?_
  refine Rv rfl rfl rfl (U_assign rfl) rfl rfl ?_
  refine Re rfl ?_
  refine thenQ_n ?_
  refine W_seq rfl ?_
  refine W_seq rfl ?_
  refine W_reg rfl ?_
  refine Rv rfl rfl rfl (U_assign rfl) rfl rfl ?_
  refine Re rfl ?_
  refine thenQ_n ?_
  refine W_block rfl ?_
  refine LoopTo (T' := [(1, .rop [i64 p.n, .ros (p.ds.map i64) p.ds.length c] 0), (3, .out 0 [].length 1), (4, i64 ((0 : Nat) : Int))]) (H' := [(0, outB ([].map i64) 3 [].length)]) (n := 1) rfl (fun mz_ qz_ => ∃ (k : Nat) (l : List Int), k ≤ 8 ∧ (l = filt (fun m => decide ((movP p m).ds = p.ds)) k) ∧ mz_ = 8 - k ∧ qz_ = ⟨[(1, .rop [i64 p.n, .ros (p.ds.map i64) p.ds.length c] 0), (3, .out 0 l.length 1), (4, i64 ((k : Nat) : Int))], [(0, outB (l.map i64) 3 l.length)], 1, []⟩) ⟨0, [], (by omega), rfl, rfl, rfl⟩ id ⟨eD rfl rfl, eW rfl le_nils_out rfl, eD rfl rfl, trivial⟩ ⟨rO0 rfl, trivial⟩ rfl rfl rfl rfl (fun _ _ => rfl) ?_
  rintro _ _ ⟨k, l, hi0_0, hi0_1, rfl, rfl⟩
  have hll : l.length ≤ 8 := by rw [hi0_1]; exact Nat.le_trans filt_len (by omega)
  refine W_seq rfl ?_
  refine W_seq rfl ?_
  refine W_reg rfl ?_
  refine Rv rfl rfl rfl (U_move rfl) rfl rfl ?_
  refine Rv rfl rfl rfl (U_lss rfl rfl) rfl rfl ?_
  refine Re rfl ?_
  refine thenQ_n ?_
  refine WcondP rfl rfl (fun hc0 => ?_) (fun hc0 => ?_)
  · have hkm : (0 : Int) ≤ (k : Int) ∧ (k : Int) < 8 := by omega
    have hml : (movP p (k : Int)).ds.length ≤ 1000000 := by rw [movP_len]; exact hl
    refine W_skip rfl ?_
    refine thenQ_n ?_
    refine W_seq rfl ?_
    refine W_block rfl ?_
    refine W_seq rfl ?_
    refine Wdraw rfl (by kernel_rfl) (by kernel_rfl) ?_
    refine Dv rfl rfl rfl (U_load2 rfl rfl rfl rfl) rfl rfl ?_
    refine Dv rfl rfl rfl (U_move rfl) rfl rfl ?_
    refine Dv rfl rfl rfl (U_call rfl rfl (moveOf_p p c N hv ((k : Nat) : Int) (by first | assumption | omega)) rfl) rfl rfl ?_
    refine Dv rfl rfl rfl (U_field rfl rfl) rfl rfl ?_
    refine Dv rfl rfl rfl (U_fieldAddrR rfl) rfl rfl ?_
    refine Dv rfl rfl rfl (U_load1 rfl rfl rfl) rfl rfl ?_
    refine Dv rfl rfl rfl (U_call rfl rfl (same_p ((movP p ((k : Nat) : Int)).ds) p.ds (some (movP p ((k : Nat) : Int)).ds.length) c (by first | assumption | omega | (simp; done) | (simp; omega)) (by first | assumption | omega | (simp; done) | (simp; omega))) rfl) rfl rfl ?_
    refine Dr.nil rfl ?_
    refine thenQ_n ?_
    refine WcondP rfl rfl (fun hc1 => ?_) (fun hc1 => ?_)
    · refine W_reg rfl ?_
      refine Rv rfl rfl rfl (U_move rfl) rfl rfl ?_
      refine Rv rfl rfl rfl (U_move rfl) rfl rfl ?_
      refine Rv rfl rfl rfl (U_buildSliceF (by rfl) (by decide) rfl rfl rfl) rfl rfl ?_
      refine Ra rfl rfl rfl (U_appO (b := 0) (m := 0) (cs' := (l ++ [((k : Nat) : Int)]).map i64) (n' := (l ++ [((k : Nat) : Int)]).length) rfl rfl (by simp) rfl (map_len1 _) rfl rfl (by omega) (appM _ _) (len1 _ _)) rfl rfl rfl ?_
      refine Rv rfl rfl rfl (U_assign rfl) rfl rfl ?_
      refine Re rfl ?_
      refine blkQ_n ?_
      refine thenQ_n ?_
      refine W_reg rfl ?_
      refine Rv rfl rfl rfl (U_move rfl) rfl rfl ?_
      refine Rv rfl rfl rfl (U_add rfl rfl (w64e (m := ((k + 1 : Nat) : Int)) (by omega) (by omega) (by omega))) rfl rfl ?_
      refine Rv rfl rfl rfl (U_assign rfl) rfl rfl ?_
      refine Re rfl ?_
      refine thenQ_n ?_
      exact againTo (T' := [(1, .rop [i64 p.n, .ros (p.ds.map i64) p.ds.length c] 0), (3, .out 0 (l ++ [((k : Nat) : Int)]).length 1), (4, i64 (((k + 1) : Nat) : Int))]) (H' := [(0, outB ((l ++ [((k : Nat) : Int)]).map i64) 3 (l ++ [((k : Nat) : Int)]).length)]) (n := 1) (8 - (k + 1)) ⟨k + 1, l ++ [((k : Nat) : Int)], (by omega), (by first | (rw [filt_t (p := fun m => decide ((movP p m).ds = p.ds)) (by simpa using hc1), hi0_1]; done) | (rw [filt_f (p := fun m => decide ((movP p m).ds = p.ds)) (by simpa using hc1), hi0_1]; done)), rfl, rfl⟩ (by omega) (mapN [1]) ⟨eD rfl rfl, e_ rfl rfl, eD rfl rfl, trivial⟩ ⟨rO (mapD (fun _ => rfl) _) rfl rfl, trivial⟩ rfl rfl rfl rfl (fun _ h => absurd h (Nat.not_lt_zero _))
    · refine W_skip rfl ?_
      refine blkQ_n ?_
      refine thenQ_n ?_
      refine W_reg rfl ?_
      refine Rv rfl rfl rfl (U_move rfl) rfl rfl ?_
      refine Rv rfl rfl rfl (U_add rfl rfl (w64e (m := ((k + 1 : Nat) : Int)) (by omega) (by omega) (by omega))) rfl rfl ?_
      refine Rv rfl rfl rfl (U_assign rfl) rfl rfl ?_
      refine Re rfl ?_
      refine thenQ_n ?_
      exact againTo (T' := [(1, .rop [i64 p.n, .ros (p.ds.map i64) p.ds.length c] 0), (3, .out 0 l.length 1), (4, i64 (((k + 1) : Nat) : Int))]) (H' := [(0, outB (l.map i64) 3 l.length)]) (n := 1) (8 - (k + 1)) ⟨k + 1, l, (by omega), (by first | (rw [filt_t (p := fun m => decide ((movP p m).ds = p.ds)) (by simpa using hc1), hi0_1]; done) | (rw [filt_f (p := fun m => decide ((movP p m).ds = p.ds)) (by simpa using hc1), hi0_1]; done)), rfl, rfl⟩ (by omega) id ⟨eD rfl rfl, e_ rfl rfl, eD rfl rfl, trivial⟩ ⟨rO (mapD (fun _ => rfl) _) rfl rfl, trivial⟩ rfl rfl rfl rfl (fun _ _ => rfl)
  · refine W_exit rfl ?_
    refine thenQ_x ?_
    refine thenQ_x ?_
    refine blkQ_x rfl ?_
    refine thenQ_n ?_
    refine W_seq rfl ?_
    refine W_reg rfl ?_
    refine Rv rfl rfl rfl (U_move rfl) rfl rfl ?_
    refine Rv rfl rfl rfl (U_assign rfl) rfl rfl ?_
    refine Re rfl ?_
    refine thenQ_n ?_
    refine WfrO 0 (l.map i64) rfl (mapD (fun _ => rfl) _) (T' := [(2, .ros (l.map i64) l.length none)]) (H' := []) ⟨fO rfl, trivial⟩ trivial ?_
    refine W_ret rfl ?_
    exact retL (rlT rfl rl0) (by first | rfl | (simp only [packA]; rw [hi0_1, show k = 8 by omega]; rfl; first | done | rfl)) rfl
theorem staysR_p (p : Pl) (c : Option Nat) (hl : p.ds.length ≤ 1000000) : Pure Try.prog 22 [plA p c] (.tup [intsA (staR p) none, i64 (chkP p)]) := by
  refine pure_of_body Try.func22 (c := body Try.f22) rfl (by simp [Try.ntmps22]) fun w0 Φ0 => ?_
  refine W_seq rfl ?_
  refine W_reg rfl ?_
  refine Rv rfl rfl rfl (U_boxF rfl rfl rfl) rfl rfl ?_
  refine Rv rfl rfl rfl (U_assign rfl) rfl rfl ?_
  refine Rv rfl rfl rfl (U_assign rfl) rfl rfl ?_
  refine Re rfl ?_
  refine thenQ_n ?_
  refine W_seq rfl ?_
  refine W_seq rfl ?_
  refine W_reg rfl ?_
  refine Rv rfl rfl rfl (U_load2 rfl rfl rfl rfl) rfl rfl ?_
  refine Rv rfl rfl rfl (U_call rfl rfl (chkPR_p p c (by first | assumption | omega)) rfl) rfl rfl ?_
  refine Rv rfl rfl rfl (U_neq rfl rfl) rfl rfl ?_
  refine Re rfl ?_
  refine thenQ_n ?_
  refine WcondP rfl rfl (fun hc0 => ?_) (fun hc0 => ?_)
  · refine W_seq rfl ?_
    refine W_reg rfl ?_
    refine Rv rfl rfl rfl (U_load2 rfl rfl rfl rfl) rfl rfl ?_
    refine Rv rfl rfl rfl (U_call rfl rfl (chkPR_p p c (by first | assumption | omega)) rfl) rfl rfl ?_
    refine Rv rfl rfl rfl (U_assign rfl) rfl rfl ?_
    refine Rv rfl rfl rfl (U_assign rfl) rfl rfl ?_
    refine Re rfl ?_
    refine thenQ_n ?_
    refine WweakT (j := 2) rfl (le_nils (cs := [])) ?_
    refine W_ret rfl ?_
    refine thenQ_r ?_
    exact retL (rlT rfl (rlT rfl rl0)) (by first | rfl | (simp only [packA]; rw [staR, if_neg hc0]; first | done | rfl) | (simp only [packA]; rw [staR, if_pos hc0, hc0]; first | done | rfl)) rfl
  · rw [Decidable.not_not] at hc0
    obtain ⟨N, hv⟩ := vp_of hc0
    refine W_skip rfl ?_
    refine thenQ_n ?_
    refine W_seq rfl ?_
    refine W_reg rfl ?_
    refine Rv rfl rfl rfl (U_load2 rfl rfl rfl rfl) rfl rfl ?_
    refine Rv rfl rfl rfl (U_call rfl rfl (staysOf_p p c (by first | assumption | omega) N hv) rfl) rfl rfl ?_
    refine Rv rfl rfl rfl (U_assign rfl) rfl rfl ?_
    refine Rv rfl rfl rfl (U_assign rfl) rfl rfl ?_
    refine Re rfl ?_
    refine thenQ_n ?_
    refine W_ret rfl ?_
    exact retL (rlT rfl (rlT rfl rl0)) (by first | rfl | (simp only [packA]; rw [staR, if_neg hc0]; first | done | rfl) | (simp only [packA]; rw [staR, if_pos hc0, hc0]; first | done | rfl)) rfl
/-- The error of a plan, and the motion that it makes. -/
def cplE (ks pl : List Int) : Int := if chkK ks ≠ 0 then chkK ks else if (20 : Int) < pl.length then 6 else if (pl.any fun m => !ks.any fun y => decide (m = y)) = true then 2 else 0
def cplR (ks pl : List Int) : Int := if cplE ks pl = 0 then pl.foldl aft 0 else 0
theorem fold_in {ks : List Int} (hk : ∀ x ∈ ks, 0 ≤ x ∧ x < 8) : ∀ (pl : List Int) {a : Int}, 0 ≤ a ∧ a < 8 → (∀ x ∈ pl, x ∈ ks) → 0 ≤ pl.foldl aft a ∧ pl.foldl aft a < 8
  | [], _, ha, _ => ha
  | x :: pl, _, ha, h => fold_in hk pl (after_in ha (hk x (h x (by simp)))) fun y hy => h y (List.mem_cons_of_mem _ hy)
theorem take_succF {α β : Type} {f : β → α → β} {l : List α} {k : Nat} {a : β} (h : k < l.length) : (l.take (k + 1)).foldl f a = f ((l.take k).foldl f a) l[k] := by
  rw [List.take_succ_eq_append_getElem h, List.foldl_append]; rfl
theorem cpl_mem {ks pl : List Int} (h : (pl.any fun m => !ks.any fun y => decide (m = y)) = false) : ∀ x ∈ pl, x ∈ ks := fun x hx => by
  have h1 := List.any_eq_false.1 h x hx
  have h2 : ks.any (fun y => decide (x = y)) = true := by simpa using h1
  obtain ⟨y, hy, e⟩ := List.any_eq_true.1 h2
  have e : x = y := by simpa using e
  exact e ▸ hy
theorem take_mem {α : Type} {P : α → Prop} {l : List α} (h : ∀ x ∈ l, P x) (k : Nat) : ∀ x ∈ l.take k, P x := fun x hx => h x (List.mem_of_mem_take hx)
theorem stray_p (x : Int) (ks : List Int) (c : Option Nat) (hl : ks.length ≤ 1000000) : Pure Try.prog 74 [i64 x, .rop [intsA ks c] 0] (.bool (!ks.any fun y => decide (x = y))) := by
  refine pure_of_body Try.func74 (c := body Try.f74) rfl (by simp [Try.ntmps74]) fun w0 Φ0 => ?_
  refine W_seq rfl ?_
  refine W_reg rfl ?_
  refine Rv rfl rfl rfl (U_assign rfl) rfl rfl ?_
  refine Re rfl ?_
  refine thenQ_n ?_
  refine W_seq rfl ?_
  refine W_reg rfl ?_
  refine Rv rfl rfl rfl (U_load1 rfl rfl rfl) rfl rfl ?_
  refine Rv rfl rfl rfl (U_move rfl) rfl rfl ?_
  refine Rv rfl rfl rfl (U_call rfl rfl (contains_p ks x c (by first | assumption | omega | (simp; done) | (simp; omega))) rfl) rfl rfl ?_
  refine Rv rfl rfl rfl (U_not rfl) rfl rfl ?_
  refine Rv rfl rfl rfl (U_assign rfl) rfl rfl ?_
  refine Re rfl ?_
  refine thenQ_n ?_
  refine W_ret rfl ?_
  exact retL (rlT rfl rl0) rfl rfl
theorem checkPlan_p (ks : List Int) (c : Option Nat) (hl : ks.length ≤ 1000000) (pl : List Int) (d : Option Nat) (hl2 : pl.length ≤ 1000000) : Pure Try.prog 35 [intsA ks c, intsA pl d] (.tup [i64 (cplR ks pl), i64 (cplE ks pl)]) := by
  refine pure_of_body Try.func35 (c := body Try.f35) rfl (by simp [Try.ntmps35]) fun w0 Φ0 => ?_
  refine W_seq rfl ?_
  refine W_reg rfl ?_
  refine Rv rfl rfl rfl (U_boxF rfl rfl rfl) rfl rfl ?_
  refine Rv rfl rfl rfl (U_assign rfl) rfl rfl ?_
  refine Rv rfl rfl rfl (U_assign rfl) rfl rfl ?_
  refine Re rfl ?_
  refine thenQ_n ?_
  refine W_seq rfl ?_
  refine W_reg rfl ?_
  refine Rv rfl rfl rfl (U_load1 rfl rfl rfl) rfl rfl ?_
  refine Rv rfl rfl rfl (U_call rfl rfl (chkK_p ks c (by first | assumption | omega)) rfl) rfl rfl ?_
  refine Rv rfl rfl rfl (U_assign rfl) rfl rfl ?_
  refine Re rfl ?_
  refine thenQ_n ?_
  refine W_seq rfl ?_
  refine W_reg rfl ?_
  refine Rv rfl rfl rfl (U_makeFunc rfl rfl) rfl rfl ?_
  refine Rv rfl rfl rfl (U_assign rfl) rfl rfl ?_
  refine Re rfl ?_
  refine thenQ_n ?_
  refine W_seq rfl ?_
  refine W_block rfl ?_
  refine W_seq rfl ?_
  refine W_reg rfl ?_
  refine Rv rfl rfl rfl (U_move rfl) rfl rfl ?_
  refine Rv rfl rfl rfl (U_neq rfl rfl) rfl rfl ?_
  refine Rv rfl rfl rfl (U_assign rfl) rfl rfl ?_
  refine Re rfl ?_
  refine thenQ_n ?_
  refine WcondP rfl rfl (fun hc0 => ?_) (fun hc0 => ?_)
  · have hce : cplE ks pl = chkK ks := by rw [cplE, if_pos hc0]
    rw [cplR, hce, if_neg hc0]
    refine W_seq rfl ?_
    refine W_reg rfl ?_
    refine Rv rfl rfl rfl (U_move rfl) rfl rfl ?_
    refine Rv rfl rfl rfl (U_assign rfl) rfl rfl ?_
    refine Rv rfl rfl rfl (U_assign rfl) rfl rfl ?_
    refine Re rfl ?_
    refine thenQ_n ?_
    refine W_ret rfl ?_
    refine blkQ_r ?_
    refine thenQ_r ?_
    exact retL (rlT rfl (rlT rfl rl0)) (by first | rfl | (simp only [packA]; rw [hi0_1, show k = pl.length by omega, List.take_length]; first | done | rfl)) rfl
  · rw [Decidable.not_not] at hc0
    refine W_seq rfl ?_
    refine W_reg rfl ?_
    refine Rv rfl rfl rfl (U_move rfl) rfl rfl ?_
    refine Rv rfl rfl rfl (U_lenOf rfl len_ros) rfl rfl ?_
    refine Rv rfl rfl rfl (U_gtr rfl rfl) rfl rfl ?_
    refine Rv rfl rfl rfl (U_assign rfl) rfl rfl ?_
    refine Re rfl ?_
    refine thenQ_n ?_
    refine WcondP rfl rfl (fun hc1 => ?_) (fun hc1 => ?_)
    · have hce : cplE ks pl = 6 := by rw [cplE, if_neg (by simpa using hc0), if_pos hc1]
      rw [cplR, hce, if_neg (by decide)]
      refine W_seq rfl ?_
      refine W_reg rfl ?_
      refine Rv rfl rfl rfl (U_assign rfl) rfl rfl ?_
      refine Rv rfl rfl rfl (U_assign rfl) rfl rfl ?_
      refine Re rfl ?_
      refine thenQ_n ?_
      refine W_ret rfl ?_
      refine blkQ_r ?_
      refine thenQ_r ?_
      exact retL (rlT rfl (rlT rfl rl0)) (by first | rfl | (simp only [packA]; rw [hi0_1, show k = pl.length by omega, List.take_length]; first | done | rfl)) rfl
    · refine W_seq rfl ?_
      refine W_reg rfl ?_
      refine Rv rfl rfl rfl (U_move rfl) rfl rfl ?_
      refine Rv rfl rfl rfl (U_move rfl) rfl rfl ?_
      refine Rv rfl rfl rfl (U_call rfl rfl (anyInt_p (f := 74) (ca := [.rop [intsA ks c] 0]) rfl (fun x => !ks.any fun y => decide (x = y)) pl d (by first | assumption | omega) (fun x _ => stray_p x ks c (by first | assumption | omega))) rfl) rfl rfl ?_
      refine Rv rfl rfl rfl (U_assign rfl) rfl rfl ?_
      refine Re rfl ?_
      refine thenQ_n ?_
      refine Wcond rfl rfl (fun hc2 => ?_) (fun hc2 => ?_)
      · have hce : cplE ks pl = 2 := by rw [cplE, if_neg (by simpa using hc0), if_neg (by omega), if_pos hc2]
        rw [cplR, hce, if_neg (by decide)]
        refine W_seq rfl ?_
        refine W_reg rfl ?_
        refine Rv rfl rfl rfl (U_assign rfl) rfl rfl ?_
        refine Rv rfl rfl rfl (U_assign rfl) rfl rfl ?_
        refine Re rfl ?_
        refine thenQ_n ?_
        refine W_ret rfl ?_
        refine blkQ_r ?_
        refine thenQ_r ?_
        exact retL (rlT rfl (rlT rfl rl0)) (by first | rfl | (simp only [packA]; rw [hi0_1, show k = pl.length by omega, List.take_length]; first | done | rfl)) rfl
      · have hc2' := Bool.eq_false_iff.1 hc2
        have hce : cplE ks pl = 0 := by rw [cplE, if_neg (by simpa using hc0), if_neg (by omega), if_neg hc2']
        rw [cplR, hce, if_pos rfl]
        have hk : ∀ x ∈ ks, 0 ≤ x ∧ x < 8 := fun x hx => by have := okK_get (chkK_ok hc0) x hx; omega
        have hmm := cpl_mem hc2
        refine W_skip rfl ?_
        refine blkQ_n ?_
        refine thenQ_n ?_
        refine W_seq rfl ?_
        refine W_reg rfl ?_
        refine Rv rfl rfl rfl (U_assign rfl) rfl rfl ?_
        refine Re rfl ?_
        refine thenQ_n ?_
        refine W_seq rfl ?_
        refine W_seq rfl ?_
        refine W_reg rfl ?_
        refine Rv rfl rfl rfl (U_move rfl) rfl rfl ?_
        refine Rv rfl rfl rfl (U_lenOf rfl len_ros) rfl rfl ?_
        refine Rv rfl rfl rfl (U_move rfl) rfl rfl ?_
        refine Re rfl ?_
        refine thenQ_n ?_
        refine W_block rfl ?_
        refine LoopTo (T' := [(8, i64 0), (26, .ros (pl.map i64) pl.length d), (27, i64 ((pl.length : Nat) : Int)), (28, i64 ((0 : Nat) : Int))]) (H' := []) (n := 0) rfl (fun mz_ qz_ => ∃ (k : Nat) (m : Int), k ≤ pl.length ∧ m = (pl.take k).foldl aft 0 ∧ mz_ = pl.length - k ∧ qz_ = ⟨[(8, i64 m), (26, .ros (pl.map i64) pl.length d), (27, i64 ((pl.length : Nat) : Int)), (28, i64 ((k : Nat) : Int))], [], 0, []⟩) ⟨0, 0, (by omega), rfl, rfl, rfl⟩ id ⟨eD rfl rfl, eD rfl rfl, eD rfl rfl, eD rfl rfl, trivial⟩ trivial rfl rfl rfl rfl (fun _ _ => rfl) ?_
        rintro _ _ ⟨k, m, hi0_0, hi0_1, rfl, rfl⟩
        refine W_seq rfl ?_
        refine W_reg rfl ?_
        refine Rv rfl rfl rfl (U_lss rfl rfl) rfl rfl ?_
        refine Re rfl ?_
        refine thenQ_n ?_
        refine W_seq rfl ?_
        refine WcondP rfl rfl (fun hc3 => ?_) (fun hc3 => ?_)
        · have hck : k < pl.length := by omega
          have hm : 0 ≤ m ∧ m < 8 := by rw [hi0_1]; exact fold_in hk _ (by omega) (take_mem hmm k)
          have hkk := hk _ (hmm _ (List.getElem_mem hck))
          refine W_skip rfl ?_
          refine thenQ_n ?_
          refine W_seq rfl ?_
          refine W_block rfl ?_
          refine W_seq rfl ?_
          refine W_reg rfl ?_
          have hx1 : k < pl.length := by omega
          refine Rv rfl rfl rfl (U_indexR (j := k) rfl rfl rfl hx1) rfl rfl ?_
          refine Rv rfl rfl rfl (U_load1 rfl rfl (getM hx1)) rfl rfl ?_
          refine Rv rfl rfl rfl (U_assign rfl) rfl rfl ?_
          refine Re rfl ?_
          refine thenQ_n ?_
          refine W_reg rfl ?_
          refine Rv rfl rfl rfl (U_move rfl) rfl rfl ?_
          refine Rv rfl rfl rfl (U_move rfl) rfl rfl ?_
          refine Rv rfl rfl rfl (U_call rfl rfl (after_p m pl[k] (by first | assumption | omega) (by first | assumption | omega)) rfl) rfl rfl ?_
          refine Rv rfl rfl rfl (U_assign rfl) rfl rfl ?_
          refine Re rfl ?_
          refine blkQ_n ?_
          refine thenQ_n ?_
          refine W_reg rfl ?_
          refine Rv rfl rfl rfl (U_add rfl rfl (w64e (m := ((k + 1 : Nat) : Int)) (by omega) (by omega) (by omega))) rfl rfl ?_
          refine Rv rfl rfl rfl (U_move rfl) rfl rfl ?_
          refine Re rfl ?_
          refine thenQ_n ?_
          exact againTo (T' := [(8, i64 (aft m pl[k])), (26, .ros (pl.map i64) pl.length d), (27, i64 ((pl.length : Nat) : Int)), (28, i64 (((k + 1) : Nat) : Int))]) (H' := []) (n := 0) (pl.length - (k + 1)) ⟨k + 1, aft m pl[k], (by omega), (by rw [take_succF hck, hi0_1]), rfl, rfl⟩ (by omega) id ⟨eD rfl rfl, eD rfl rfl, eD rfl rfl, eD rfl rfl, trivial⟩ trivial rfl rfl rfl rfl (fun _ _ => rfl)
        · refine W_exit rfl ?_
          refine thenQ_x ?_
          refine thenQ_x ?_
          refine blkQ_x rfl ?_
          refine thenQ_n ?_
          refine W_seq rfl ?_
          refine W_reg rfl ?_
          refine Rv rfl rfl rfl (U_move rfl) rfl rfl ?_
          refine Rv rfl rfl rfl (U_assign rfl) rfl rfl ?_
          refine Rv rfl rfl rfl (U_assign rfl) rfl rfl ?_
          refine Re rfl ?_
          refine thenQ_n ?_
          refine W_ret rfl ?_
          exact retL (rlT rfl (rlT rfl rl0)) (by first | rfl | (simp only [packA]; rw [hi0_1, show k = pl.length by omega, List.take_length]; first | done | rfl)) rfl
theorem cpl_bad {ks pl : List Int} {k : Nat} (hk : k < pl.length) (h : ¬ (ks.any fun y => decide (pl[k] = y)) = true) : (pl.any fun m => !ks.any fun y => decide (m = y)) = true := any_true hk (by rw [Bool.not_eq_true'] ; exact Bool.eq_false_iff.2 h)
theorem cpl_good {ks pl : List Int} (h : ∀ j (hj : j < pl.length), (ks.any fun y => decide (pl[j] = y)) = true) : (pl.any fun m => !ks.any fun y => decide (m = y)) = false := any_false fun j hj => by rw [h j hj]; rfl
theorem mem_any {ks : List Int} {x : Int} (h : (ks.any fun y => decide (x = y)) = true) : x ∈ ks := by
  obtain ⟨y, hy, e⟩ := List.any_eq_true.1 h
  have e : x = y := by simpa using e
  exact e ▸ hy
theorem take_mem2 {ks pl : List Int} {k : Nat} (h : ∀ j (hj : j < pl.length), j < k → (ks.any fun y => decide (pl[j] = y)) = true) : ∀ x ∈ pl.take k, x ∈ ks := fun x hx => by
  obtain ⟨j, hj, rfl⟩ := List.getElem_of_mem hx
  have hj' : j < k ∧ j < pl.length := by rw [List.length_take] at hj; omega
  rw [List.getElem_take]; exact mem_any (h j hj'.2 hj'.1)
theorem checkPlanR_p (ks : List Int) (c : Option Nat) (hl : ks.length ≤ 1000000) (pl : List Int) (d : Option Nat) (hl2 : pl.length ≤ 1000000) : Pure Try.prog 36 [intsA ks c, intsA pl d] (.tup [i64 (cplR ks pl), i64 (cplE ks pl)]) := by
  refine pure_of_body Try.func36 (c := body Try.f36) rfl (by simp [Try.ntmps36]) fun w0 Φ0 => ?_
  refine W_seq rfl ?_
  refine W_reg rfl ?_
  refine Rv rfl rfl rfl (U_assign rfl) rfl rfl ?_
  refine Rv rfl rfl rfl (U_assign rfl) rfl rfl ?_
  refine Re rfl ?_
  refine thenQ_n ?_
  refine W_seq rfl ?_
  refine W_seq rfl ?_
  refine W_reg rfl ?_
  refine Rv rfl rfl rfl (U_move rfl) rfl rfl ?_
  refine Rv rfl rfl rfl (U_call rfl rfl (chkKR_p ks c (by first | assumption | omega)) rfl) rfl rfl ?_
  refine Rv rfl rfl rfl (U_neq rfl rfl) rfl rfl ?_
  refine Re rfl ?_
  refine thenQ_n ?_
  refine WcondP rfl rfl (fun hc0 => ?_) (fun hc0 => ?_)
  · have hce : cplE ks pl = chkK ks := by rw [cplE, if_pos hc0]
    rw [cplR, hce, if_neg hc0]
    refine W_seq rfl ?_
    refine W_reg rfl ?_
    refine Rv rfl rfl rfl (U_move rfl) rfl rfl ?_
    refine Rv rfl rfl rfl (U_call rfl rfl (chkKR_p ks c (by first | assumption | omega)) rfl) rfl rfl ?_
    refine Rv rfl rfl rfl (U_assign rfl) rfl rfl ?_
    refine Rv rfl rfl rfl (U_assign rfl) rfl rfl ?_
    refine Re rfl ?_
    refine thenQ_n ?_
    refine W_ret rfl ?_
    refine thenQ_r ?_
    exact retL (rlT rfl (rlT rfl rl0)) (by first | rfl | (simp only [packA]; rw [hi0_1, show k = pl.length by omega, List.take_length]; first | done | rfl)) rfl
  · rw [Decidable.not_not] at hc0
    have hk : ∀ x ∈ ks, 0 ≤ x ∧ x < 8 := fun x hx => by have := okK_get (chkK_ok hc0) x hx; omega
    refine W_skip rfl ?_
    refine thenQ_n ?_
    refine W_seq rfl ?_
    refine W_seq rfl ?_
    refine W_reg rfl ?_
    refine Rv rfl rfl rfl (U_move rfl) rfl rfl ?_
    refine Rv rfl rfl rfl (U_lenOf rfl len_ros) rfl rfl ?_
    refine Rv rfl rfl rfl (U_gtr rfl rfl) rfl rfl ?_
    refine Re rfl ?_
    refine thenQ_n ?_
    refine WcondP rfl rfl (fun hc1 => ?_) (fun hc1 => ?_)
    · have hce : cplE ks pl = 6 := by rw [cplE, if_neg (by simpa using hc0), if_pos hc1]
      rw [cplR, hce, if_neg (by decide)]
      refine W_seq rfl ?_
      refine W_reg rfl ?_
      refine Rv rfl rfl rfl (U_assign rfl) rfl rfl ?_
      refine Rv rfl rfl rfl (U_assign rfl) rfl rfl ?_
      refine Re rfl ?_
      refine thenQ_n ?_
      refine W_ret rfl ?_
      refine thenQ_r ?_
      exact retL (rlT rfl (rlT rfl rl0)) (by first | rfl | (simp only [packA]; rw [hi0_1, show k = pl.length by omega, List.take_length]; first | done | rfl)) rfl
    · refine W_skip rfl ?_
      refine thenQ_n ?_
      refine W_seq rfl ?_
      refine W_reg rfl ?_
      refine Rv rfl rfl rfl (U_assign rfl) rfl rfl ?_
      refine Re rfl ?_
      refine thenQ_n ?_
      refine W_seq rfl ?_
      refine W_seq rfl ?_
      refine W_reg rfl ?_
      refine Rv rfl rfl rfl (U_assign rfl) rfl rfl ?_
      refine Re rfl ?_
      refine thenQ_n ?_
      refine W_block rfl ?_
      refine LoopTo (T' := [(0, .ros (ks.map i64) ks.length c), (1, .ros (pl.map i64) pl.length d), (6, i64 0), (7, i64 ((0 : Nat) : Int))]) (H' := []) (n := 0) rfl (fun mz_ qz_ => ∃ (k : Nat) (m : Int), k ≤ pl.length ∧ m = (pl.take k).foldl aft 0 ∧ (∀ j (hj : j < pl.length), j < k → (ks.any fun y => decide (pl[j] = y)) = true) ∧ mz_ = pl.length - k ∧ qz_ = ⟨[(0, .ros (ks.map i64) ks.length c), (1, .ros (pl.map i64) pl.length d), (6, i64 m), (7, i64 ((k : Nat) : Int))], [], 0, []⟩) ⟨0, 0, (by omega), rfl, (fun j hj h => absurd h (Nat.not_lt_zero _)), rfl, rfl⟩ id ⟨eD rfl rfl, eD rfl rfl, eD rfl rfl, eD rfl rfl, trivial⟩ trivial rfl rfl rfl rfl (fun _ _ => rfl) ?_
      rintro _ _ ⟨k, m, hi0_0, hi0_1, hi0_2, rfl, rfl⟩
      refine W_seq rfl ?_
      refine W_seq rfl ?_
      refine W_reg rfl ?_
      refine Rv rfl rfl rfl (U_move rfl) rfl rfl ?_
      refine Rv rfl rfl rfl (U_move rfl) rfl rfl ?_
      refine Rv rfl rfl rfl (U_lenOf rfl len_ros) rfl rfl ?_
      refine Rv rfl rfl rfl (U_lss rfl rfl) rfl rfl ?_
      refine Re rfl ?_
      refine thenQ_n ?_
      refine WcondP rfl rfl (fun hc2 => ?_) (fun hc2 => ?_)
      · have hck : k < pl.length := by omega
        refine W_skip rfl ?_
        refine thenQ_n ?_
        refine W_seq rfl ?_
        refine W_block rfl ?_
        refine W_seq rfl ?_
        refine W_seq rfl ?_
        refine W_reg rfl ?_
        refine Rv rfl rfl rfl (U_move rfl) rfl rfl ?_
        refine Rv rfl rfl rfl (U_move rfl) rfl rfl ?_
        refine Rv rfl rfl rfl (U_move rfl) rfl rfl ?_
        have hx1 : k < pl.length := by omega
        refine Rv rfl rfl rfl (U_indexR (j := k) rfl rfl rfl hx1) rfl rfl ?_
        refine Rv rfl rfl rfl (U_load1 rfl rfl (getM hx1)) rfl rfl ?_
        refine Rv rfl rfl rfl (U_call rfl rfl (has_p ks pl[k] c (by first | assumption | omega)) rfl) rfl rfl ?_
        refine Rv rfl rfl rfl (U_not rfl) rfl rfl ?_
        refine Re rfl ?_
        refine thenQ_n ?_
        refine Wcond rfl rfl (fun hc3 => ?_) (fun hc3 => ?_)
        · have hbad := cpl_bad hck (by rw [Bool.not_eq_true'] at hc3; exact Bool.eq_false_iff.1 hc3)
          have hce : cplE ks pl = 2 := by rw [cplE, if_neg (by simpa using hc0), if_neg (by omega), if_pos hbad]
          rw [cplR, hce, if_neg (by decide)]
          refine W_seq rfl ?_
          refine W_reg rfl ?_
          refine Rv rfl rfl rfl (U_assign rfl) rfl rfl ?_
          refine Rv rfl rfl rfl (U_assign rfl) rfl rfl ?_
          refine Re rfl ?_
          refine thenQ_n ?_
          refine W_ret rfl ?_
          refine thenQ_r ?_
          refine blkQ_r ?_
          refine thenQ_r ?_
          refine thenQ_r ?_
          refine blkQ_r ?_
          refine thenQ_r ?_
          exact retL (rlT rfl (rlT rfl rl0)) (by first | rfl | (simp only [packA]; rw [hi0_1, show k = pl.length by omega, List.take_length]; first | done | rfl)) rfl
        · have hc3' := Bool.eq_false_iff.1 hc3
          have hm : 0 ≤ m ∧ m < 8 := by rw [hi0_1]; exact fold_in hk _ (by omega) (take_mem2 hi0_2)
          have hkk := hk _ (mem_any (by simpa using hc3))
          refine W_skip rfl ?_
          refine thenQ_n ?_
          refine W_reg rfl ?_
          refine Rv rfl rfl rfl (U_move rfl) rfl rfl ?_
          refine Rv rfl rfl rfl (U_move rfl) rfl rfl ?_
          refine Rv rfl rfl rfl (U_move rfl) rfl rfl ?_
          refine Rv rfl rfl rfl (U_indexR (j := k) rfl rfl rfl hx1) rfl rfl ?_
          refine Rv rfl rfl rfl (U_load1 rfl rfl (getM hx1)) rfl rfl ?_
          refine Rv rfl rfl rfl (U_call rfl rfl (afterR_p m pl[k] (by first | assumption | omega) (by first | assumption | omega)) rfl) rfl rfl ?_
          refine Rv rfl rfl rfl (U_assign rfl) rfl rfl ?_
          refine Re rfl ?_
          refine blkQ_n ?_
          refine thenQ_n ?_
          refine W_reg rfl ?_
          refine Rv rfl rfl rfl (U_move rfl) rfl rfl ?_
          refine Rv rfl rfl rfl (U_add rfl rfl (w64e (m := ((k + 1 : Nat) : Int)) (by omega) (by omega) (by omega))) rfl rfl ?_
          refine Rv rfl rfl rfl (U_assign rfl) rfl rfl ?_
          refine Re rfl ?_
          refine thenQ_n ?_
          exact againTo (T' := [(0, .ros (ks.map i64) ks.length c), (1, .ros (pl.map i64) pl.length d), (6, i64 (aft m pl[k])), (7, i64 (((k + 1) : Nat) : Int))]) (H' := []) (n := 0) (pl.length - (k + 1)) ⟨k + 1, aft m pl[k], (by omega), (by rw [take_succF hck, hi0_1]), (by intro j hj h; rcases Nat.lt_succ_iff_lt_or_eq.1 h with h | rfl; exact hi0_2 j hj h; simpa using hc3), rfl, rfl⟩ (by omega) id ⟨eD rfl rfl, eD rfl rfl, eD rfl rfl, eD rfl rfl, trivial⟩ trivial rfl rfl rfl rfl (fun _ _ => rfl)
      · have hce : cplE ks pl = 0 := by rw [cplE, if_neg (by simpa using hc0), if_neg (by omega), if_neg (by rw [cpl_good fun j hj => hi0_2 j hj (by omega)]; simp)]
        rw [cplR, hce, if_pos rfl]
        refine W_exit rfl ?_
        refine thenQ_x ?_
        refine thenQ_x ?_
        refine blkQ_x rfl ?_
        refine thenQ_n ?_
        refine W_seq rfl ?_
        refine W_reg rfl ?_
        refine Rv rfl rfl rfl (U_move rfl) rfl rfl ?_
        refine Rv rfl rfl rfl (U_assign rfl) rfl rfl ?_
        refine Rv rfl rfl rfl (U_assign rfl) rfl rfl ?_
        refine Re rfl ?_
        refine thenQ_n ?_
        refine W_ret rfl ?_
        exact retL (rlT rfl (rlT rfl rl0)) (by first | rfl | (simp only [packA]; rw [hi0_1, show k = pl.length by omega, List.take_length]; first | done | rfl)) rfl
end Go.Proofs.Ythoodfiacfmhgaa
end

section
/- Contracts of package plate: whether heights are right. -/
namespace Go.Proofs.Ythoodfiacfmhgaa
set_option maxRecDepth 20000
open Go.AE
/-- Whether a motion has a height that is too great, behind one. -/
def badB (ks hs : List Int) (m : Nat) : Bool := (doneN ks m).any fun n => decide (hs.getD m 0 + 1 < hs.getD n 0)
/-- The error of heights. -/
def chE (ks hs : List Int) : Int := if chkK ks ≠ 0 then chkK ks else if (hs.length : Int) ≠ 8 then 15 else if (!inL 0 20 hs || decide (¬ hs.getD 0 0 = 0)) = true then 3 else if (List.range 8).any (badB ks hs) = true then 14 else 0
theorem getDI {l : List Int} {i : Nat} (h : i < l.length) : l.getD i 0 = l[i] := by rw [List.getD_eq_getElem?_getD, List.getElem?_eq_getElem h]; rfl
theorem bad_first {α : Type} {p : α → Bool} : ∀ {l : List α}, l.any p = true → ∃ i, ∃ h : i < l.length, p l[i] = true ∧ ∀ j (hj : j < l.length), j < i → p l[j] = false
  | [], h => by simp at h
  | a :: l, h => by
    by_cases ha : p a = true
    · exact ⟨0, by simp, ha, fun j _ hj => absurd hj (Nat.not_lt_zero _)⟩
    · have h' : l.any p = true := by simpa [ha] using h
      obtain ⟨i, hi, h1, h2⟩ := bad_first h'
      refine ⟨i + 1, by simpa using hi, by simpa using h1, fun j hj hji => ?_⟩
      cases j with
      | zero => simpa using ha
      | succ j => simpa using h2 j (by simpa using hj) (by omega)
theorem any_rng {p : Nat → Bool} {n : Nat} (h : ∀ j, j < n → p j = false) : (List.range n).any p = false := by
  rw [List.any_eq_false]; intro x hx; rw [h x (List.mem_range.1 hx)]; simp
theorem any_rngT {p : Nat → Bool} {n j : Nat} (hj : j < n) (h : p j = true) : (List.range n).any p = true := List.any_eq_true.2 ⟨j, List.mem_range.2 hj, h⟩
theorem inL_get {lo hi : Int} {l : List Int} (h : inL lo hi l = true) {i : Nat} (hi' : i < l.length) : lo ≤ l[i] ∧ l[i] ≤ hi := by
  have := List.all_eq_true.1 h l[i] (List.getElem_mem hi'); simpa using this
theorem bad_t {ks hs : List Int} {m i : Nat} (h8 : hs.length = 8) (hm : m < 8) (hi : i < (doneN ks m).length) (hd : (doneN ks m)[i] < 8) (h : (fun n => decide (hs.getD m 0 + 1 < hs.getD n 0)) (doneN ks m)[i] = true) : hs[m]'(by omega) + 1 < hs[(doneN ks m)[i]]'(by omega) := by
  have h' : hs.getD m 0 + 1 < hs.getD (doneN ks m)[i] 0 := by simpa using h
  rw [getDI (by omega), getDI (by omega)] at h'; exact h'
theorem bad_f {ks hs : List Int} {m i : Nat} (h8 : hs.length = 8) (hm : m < 8) (hi : i < (doneN ks m).length) (hd : (doneN ks m)[i] < 8) (h : (fun n => decide (hs.getD m 0 + 1 < hs.getD n 0)) (doneN ks m)[i] = false) : ¬ hs[m]'(by omega) + 1 < hs[(doneN ks m)[i]]'(by omega) := by
  have h' : ¬ hs.getD m 0 + 1 < hs.getD (doneN ks m)[i] 0 := by simpa using h
  rw [getDI (by omega), getDI (by omega)] at h'; exact h'
theorem checkHeights_p (ks : List Int) (c : Option Nat) (hl : ks.length ≤ 1000000) (hs : List Int) (d : Option Nat) (hl2 : hs.length ≤ 1000000) : Pure Try.prog 41 [intsA ks c, intsA hs d] (i64 (chE ks hs)) := by
  refine pure_of_body Try.func41 (c := body Try.f41) rfl (by simp [Try.ntmps41]) fun w0 Φ0 => ?_
  refine W_seq rfl ?_
  refine W_reg rfl ?_
  refine Rv rfl rfl rfl (U_boxF rfl rfl rfl) rfl rfl ?_
  refine Ra rfl rfl rfl (U_alloc) rfl rfl rfl ?_
  refine Re rfl ?_
  refine thenQ_n ?_
  refine W_seq rfl ?_
  refine W_reg rfl ?_
  refine Rv rfl rfl rfl (U_move rfl) rfl rfl ?_
  refine Rv rfl rfl rfl (U_call rfl rfl (chkK_p ks c (by first | assumption | omega)) rfl) rfl rfl ?_
  refine Rv rfl rfl rfl (U_assign rfl) rfl rfl ?_
  refine Re rfl ?_
  refine thenQ_n ?_
  refine W_seq rfl ?_
  refine W_block rfl ?_
  refine W_seq rfl ?_
  refine W_reg rfl ?_
  refine Rv rfl rfl rfl (U_move rfl) rfl rfl ?_
  refine Rv rfl rfl rfl (U_neq rfl rfl) rfl rfl ?_
  refine Rv rfl rfl rfl (U_assign rfl) rfl rfl ?_
  refine Re rfl ?_
  refine thenQ_n ?_
  refine WcondP rfl rfl (fun hc0 => ?_) (fun hc0 => ?_)
  · have hce : chE ks hs = chkK ks := by rw [chE, if_pos hc0]
    rw [hce]
    refine W_seq rfl ?_
    refine W_reg rfl ?_
    refine Rv rfl rfl rfl (U_move rfl) rfl rfl ?_
    refine Rn rfl rfl rfl (U_store1 rfl rfl rfl rfl) rfl ?_
    refine Re rfl ?_
    refine thenQ_n ?_
    refine W_ret rfl ?_
    refine blkQ_r ?_
    refine thenQ_r ?_
    exact retL (rlC rfl rfl rl0) (by first | rfl | (simp only [packA]; rw [chE, if_neg (by simpa using hc0), if_neg (by simpa using hc1), if_neg (by simpa using hc2), if_neg (by rw [any_rng fun j hj => hi0_1 j (by omega)]; simp)]; first | done | rfl)) rfl
  · rw [Decidable.not_not] at hc0
    have hk : ∀ x ∈ ks, 0 ≤ x ∧ x < 8 := fun x hx => by have := okK_get (chkK_ok hc0) x hx; omega
    refine W_seq rfl ?_
    refine W_reg rfl ?_
    refine Rv rfl rfl rfl (U_load1 rfl rfl rfl) rfl rfl ?_
    refine Rv rfl rfl rfl (U_lenOf rfl len_ros) rfl rfl ?_
    refine Rv rfl rfl rfl (U_neq rfl rfl) rfl rfl ?_
    refine Rv rfl rfl rfl (U_assign rfl) rfl rfl ?_
    refine Re rfl ?_
    refine thenQ_n ?_
    refine WcondP rfl rfl (fun hc1 => ?_) (fun hc1 => ?_)
    · have hce : chE ks hs = 15 := by rw [chE, if_neg (by simpa using hc0), if_pos (by simpa using hc1)]
      rw [hce]
      refine W_seq rfl ?_
      refine W_reg rfl ?_
      refine Rn rfl rfl rfl (U_store1 rfl rfl rfl rfl) rfl ?_
      refine Re rfl ?_
      refine thenQ_n ?_
      refine W_ret rfl ?_
      refine blkQ_r ?_
      refine thenQ_r ?_
      exact retL (rlC rfl rfl rl0) (by first | rfl | (simp only [packA]; rw [chE, if_neg (by simpa using hc0), if_neg (by simpa using hc1), if_neg (by simpa using hc2), if_neg (by rw [any_rng fun j hj => hi0_1 j (by omega)]; simp)]; first | done | rfl)) rfl
    · rw [Decidable.not_not] at hc1
      have h8 : hs.length = 8 := by omega
      refine W_seq rfl ?_
      refine Wjoin ⟨[(0, .ros (ks.map i64) ks.length c), (3, .rop [.ros (hs.map i64) hs.length d] 0), (4, .ptr 0 0), (19, .bool ((!(inL 0 20 hs)) || (decide (hs[0] ≠ 0))))], [(0, some (.cells [i64 0] 27))], 1, []⟩ ?_ ?_
      · refine W_reg rfl ?_
        refine Rv rfl rfl rfl (U_load1 rfl rfl rfl) rfl rfl ?_
        refine Rv rfl rfl rfl (U_call rfl rfl (within_p 0 20 hs d (by first | assumption | omega | (simp; done) | (simp; omega))) rfl) rfl rfl ?_
        refine Rv rfl rfl rfl (U_not rfl) rfl rfl ?_
        refine Rv rfl rfl rfl (U_move rfl) rfl rfl ?_
        refine Rsplit (t := 23) rfl (fun hg1 => ?_) (fun hg1 => ?_)
        · rw [hg1]
          refine Rs rfl rfl rfl rfl rfl ?_
          refine Rs rfl rfl rfl rfl rfl ?_
          refine Rs rfl rfl rfl rfl rfl ?_
          refine Rs rfl rfl rfl rfl rfl ?_
          refine Rv rfl rfl rfl (U_pick_t rfl rfl) rfl rfl ?_
          refine Rv rfl rfl rfl (U_assign rfl) rfl rfl ?_
          refine Re rfl ?_
          exact joinTo id ⟨eD rfl rfl, eD rfl rfl, e_ rfl rfl, eD rfl rfl, trivial⟩ ⟨rD rfl rfl rfl, trivial⟩ rfl rfl rfl rfl (fun _ _ => rfl)
        · rw [hg1]
          refine Rv rfl rfl rfl (U_load1 rfl rfl rfl) rfl rfl ?_
          have hx2 : 0 < hs.length := by omega
          refine Rv rfl rfl rfl (U_indexR (j := 0) rfl rfl rfl hx2) rfl rfl ?_
          refine Rv rfl rfl rfl (U_load1 rfl rfl (getM hx2)) rfl rfl ?_
          refine Rv rfl rfl rfl (U_neq rfl rfl) rfl rfl ?_
          refine Rv rfl rfl rfl (U_pick_f rfl rfl) rfl rfl ?_
          refine Rv rfl rfl rfl (U_assign rfl) rfl rfl ?_
          refine Re rfl ?_
          exact joinTo id ⟨eD rfl rfl, eD rfl rfl, e_ rfl rfl, eD rfl rfl, trivial⟩ ⟨rD rfl rfl rfl, trivial⟩ rfl rfl rfl rfl (fun _ _ => rfl)
      refine thenQ_n ?_
      refine Wcond rfl rfl (fun hc2 => ?_) (fun hc2 => ?_)
      · have hce : chE ks hs = 3 := by rw [chE, if_neg (by simpa using hc0), if_neg (by simpa using hc1), if_pos (by rw [getDI (by omega)]; simpa using hc2)]
        rw [hce]
        refine W_seq rfl ?_
        refine W_reg rfl ?_
        refine Rn rfl rfl rfl (U_store1 rfl rfl rfl rfl) rfl ?_
        refine Re rfl ?_
        refine thenQ_n ?_
        refine W_ret rfl ?_
        refine blkQ_r ?_
        refine thenQ_r ?_
        exact retL (rlC rfl rfl rl0) (by first | rfl | (simp only [packA]; rw [chE, if_neg (by simpa using hc0), if_neg (by simpa using hc1), if_neg (by simpa using hc2), if_neg (by rw [any_rng fun j hj => hi0_1 j (by omega)]; simp)]; first | done | rfl)) rfl
      · have hc2' := Bool.eq_false_iff.1 hc2
        have hin : inL 0 20 hs = true := by simp at hc2; exact hc2.1
        rw [← getDI (by omega)] at hc2
        refine W_skip rfl ?_
        refine blkQ_n ?_
        refine thenQ_n ?_
        refine W_seq rfl ?_
        refine W_seq rfl ?_
        refine W_reg rfl ?_
        refine Rv rfl rfl rfl (U_load1 rfl rfl rfl) rfl rfl ?_
        refine Rv rfl rfl rfl (U_lenOf rfl len_ros) rfl rfl ?_
        refine Rv rfl rfl rfl (U_move rfl) rfl rfl ?_
        refine Re rfl ?_
        refine thenQ_n ?_
        refine W_block rfl ?_
        refine LoopTo (T' := [(0, .ros (ks.map i64) ks.length c), (3, .rop [.ros (hs.map i64) hs.length d] 0), (4, .ptr 0 0), (29, .ros (hs.map i64) hs.length d), (30, i64 ((hs.length : Nat) : Int)), (31, i64 ((0 : Nat) : Int))]) (H' := [(0, some (.cells [i64 0] 27))]) (n := 1) rfl (fun mz_ qz_ => ∃ (m : Nat), m ≤ hs.length ∧ (∀ j, j < m → badB ks hs j = false) ∧ mz_ = hs.length - m ∧ qz_ = ⟨[(0, .ros (ks.map i64) ks.length c), (3, .rop [.ros (hs.map i64) hs.length d] 0), (4, .ptr 0 0), (29, .ros (hs.map i64) hs.length d), (30, i64 ((hs.length : Nat) : Int)), (31, i64 ((m : Nat) : Int))], [(0, some (.cells [i64 0] 27))], 1, []⟩) ⟨0, (by omega), (fun j hj => absurd hj (Nat.not_lt_zero _)), rfl, rfl⟩ id ⟨eD rfl rfl, eD rfl rfl, e_ rfl rfl, eD rfl rfl, eD rfl rfl, eD rfl rfl, trivial⟩ ⟨rD rfl rfl rfl, trivial⟩ rfl rfl rfl rfl (fun _ _ => rfl) ?_
        rintro _ _ ⟨m, hi0_0, hi0_1, rfl, rfl⟩
        refine W_seq rfl ?_
        refine W_reg rfl ?_
        refine Rv rfl rfl rfl (U_lss rfl rfl) rfl rfl ?_
        refine Re rfl ?_
        refine thenQ_n ?_
        refine W_seq rfl ?_
        refine WcondP rfl rfl (fun hc3 => ?_) (fun hc3 => ?_)
        · refine W_skip rfl ?_
          refine thenQ_n ?_
          refine W_seq rfl ?_
          refine W_block rfl ?_
          refine W_seq rfl ?_
          refine W_reg rfl ?_
          refine Rv rfl rfl rfl (U_move rfl) rfl rfl ?_
          have hx3 : m < hs.length := by omega
          refine Rv rfl rfl rfl (U_indexR (j := m) rfl rfl rfl hx3) rfl rfl ?_
          refine Rv rfl rfl rfl (U_load1 rfl rfl (getM hx3)) rfl rfl ?_
          refine Ra rfl rfl rfl (U_alloc) rfl rfl rfl ?_
          refine Rv rfl rfl rfl (U_assign rfl) rfl rfl ?_
          refine Rn rfl rfl rfl (U_store1 rfl rfl rfl rfl) rfl ?_
          refine Re rfl ?_
          refine thenQ_n ?_
          refine W_seq rfl ?_
          refine W_reg rfl ?_
          refine Rv rfl rfl rfl (U_move rfl) rfl rfl ?_
          refine Rv rfl rfl rfl (U_move rfl) rfl rfl ?_
          refine Rv rfl rfl rfl (U_call rfl rfl (done_p ks c ((m : Nat) : Int)) rfl) rfl rfl ?_
          refine Re rfl ?_
          refine thenQ_n ?_
          refine W_block rfl ?_
          by_cases hbd : badB ks hs m = true
          · obtain ⟨i0, hi0, hbt, hbf⟩ := bad_first hbd
            refine W_rangeS (T' := [(0, .ros (ks.map i64) ks.length c), (3, .rop [.ros (hs.map i64) hs.length d] 0), (4, .ptr 0 0), (7, .ptr 1 0), (29, .ros (hs.map i64) hs.length d), (30, i64 ((hs.length : Nat) : Int)), (31, i64 ((m : Nat) : Int)), (38, .fn 95 [] [.rop [.ros (ks.map i64) ks.length c] 0, .rop [i64 ((m : Nat) : Int)] 0])]) (n := 2) rfl rfl (done_itN ks c hl hk m (by omega)) i0 (by simpa using hi0) (fun i => [(0, some (.cells [i64 0] 27)), (1, some (.cells [i64 hs[m]] 3))]) [(0, some (.cells [i64 14] 27)), (1, some (.cells [i64 hs[m]] 3))] .ret ⟨eD rfl rfl, eD rfl rfl, e_ rfl rfl, e_ rfl rfl, eD rfl rfl, eD rfl rfl, eD rfl rfl, eD rfl rfl, trivial⟩ ⟨rD rfl rfl rfl, rD rfl rfl rfl, trivial⟩ rfl rfl rfl rfl rfl (fun i => ⟨rD rfl rfl rfl, rD rfl rfl rfl, trivial⟩) ⟨rD rfl rfl rfl, rD rfl rfl rfl, trivial⟩ ?_ ?_ ?_
            · intro i x_ hlt_ hx_ C_ hC_ N_ hN_
              obtain ⟨hi_, rfl⟩ := mapAt hx_
              have hx := doneN_lt hk (m := m) (by omega) hi_
              have hb1 := inL_get hin (i := (doneN ks m)[i]) (by omega)
              have hb0 := inL_get hin (i := m) (by omega)
              obtain ⟨_, w0_, Wr_, Φ0_, ro_, nt_, k0_, ρ0_⟩ := C_
              have hC2_ : _ = Try.prog := hC_
              subst hC2_
              intro ρ_ Φ_ w_ lc_
              refine W_reg rfl ?_
              refine Rv rfl rfl rfl (U_assign rfl) rfl rfl ?_
              refine Re rfl ?_
              refine ⟨rfl, ?_⟩
              refine W_block rfl ?_
              refine W_seq rfl ?_
              refine Wdraw rfl (by kernel_rfl) (by kernel_rfl) ?_
              refine Dv rfl rfl rfl (U_load1 rfl rfl rfl) rfl rfl ?_
              refine Dv rfl rfl rfl (U_move rfl) rfl rfl ?_
              have hx4 : ((doneN ks m)[i]) < hs.length := by omega
              refine Dv rfl rfl rfl (U_indexR (j := ((doneN ks m)[i])) rfl rfl rfl hx4) rfl rfl ?_
              refine Dv rfl rfl rfl (U_load1 rfl rfl (getM hx4)) rfl rfl ?_
              refine Dv rfl rfl rfl (U_load1 rfl rfl rfl) rfl rfl ?_
              refine Dv rfl rfl rfl (U_add rfl rfl (w64 (by omega) (by omega))) rfl rfl ?_
              refine Dv rfl rfl rfl (U_gtr rfl rfl) rfl rfl ?_
              refine Dr.nil rfl ?_
              refine thenQ_n ?_
              refine WcondP rfl rfl (fun hc4 => absurd hc4 (bad_f h8 (by omega) hi_ hx (hbf i hi_ hlt_))) (fun hc4 => ?_)
              refine W_skip rfl ?_
              refine blkQ_n ?_
              refine ⟨rfl, ?_⟩
              exact hN_ _ _ ⟨rD rfl rfl rfl, rD rfl rfl rfl, trivial⟩
            · intro x_ hx_ C_ hC_ N_ hN_
              obtain ⟨hi_, rfl⟩ := mapAt hx_
              have hx := doneN_lt hk (m := m) (by omega) hi_
              have hb1 := inL_get hin (i := (doneN ks m)[i0]) (by omega)
              have hb0 := inL_get hin (i := m) (by omega)
              obtain ⟨_, w0_, Wr_, Φ0_, ro_, nt_, k0_, ρ0_⟩ := C_
              have hC2_ : _ = Try.prog := hC_
              subst hC2_
              intro ρ_ Φ_ w_ lc_
              refine W_reg rfl ?_
              refine Rv rfl rfl rfl (U_assign rfl) rfl rfl ?_
              refine Re rfl ?_
              refine ⟨rfl, ?_⟩
              refine W_block rfl ?_
              refine W_seq rfl ?_
              refine Wdraw rfl (by kernel_rfl) (by kernel_rfl) ?_
              refine Dv rfl rfl rfl (U_load1 rfl rfl rfl) rfl rfl ?_
              refine Dv rfl rfl rfl (U_move rfl) rfl rfl ?_
              have hx5 : ((doneN ks m)[i0]) < hs.length := by omega
              refine Dv rfl rfl rfl (U_indexR (j := ((doneN ks m)[i0])) rfl rfl rfl hx5) rfl rfl ?_
              refine Dv rfl rfl rfl (U_load1 rfl rfl (getM hx5)) rfl rfl ?_
              refine Dv rfl rfl rfl (U_load1 rfl rfl rfl) rfl rfl ?_
              refine Dv rfl rfl rfl (U_add rfl rfl (w64 (by omega) (by omega))) rfl rfl ?_
              refine Dv rfl rfl rfl (U_gtr rfl rfl) rfl rfl ?_
              refine Dr.nil rfl ?_
              refine thenQ_n ?_
              refine WcondP rfl rfl (fun hc4 => ?_) (fun hc4 => absurd (bad_t h8 (by omega) hi_ hx hbt) hc4)
              refine W_seq rfl ?_
              refine W_reg rfl ?_
              refine Rn rfl rfl rfl (U_store1 rfl rfl rfl rfl) rfl ?_
              refine Re rfl ?_
              refine thenQ_n ?_
              refine W_ret rfl ?_
              refine blkQ_r ?_
              refine ⟨rfl, ?_⟩
              exact hN_ _ _ ⟨rD rfl rfl rfl, rD rfl rfl rfl, trivial⟩
            · have hce : chE ks hs = 14 := by rw [chE, if_neg (by simpa using hc0), if_neg (by simpa using hc1), if_neg (by simpa using hc2), if_pos (any_rngT (by omega) hbd)]
              rw [hce]
              refine W_ret rfl ?_
              refine blkQ_r ?_
              refine blkQ_r ?_
              refine thenQ_r ?_
              refine thenQ_r ?_
              refine blkQ_r ?_
              refine thenQ_r ?_
              exact retL (rlC rfl rfl rl0) (by first | rfl | (simp only [packA]; rw [chE, if_neg (by simpa using hc0), if_neg (by simpa using hc1), if_neg (by simpa using hc2), if_neg (by rw [any_rng fun j hj => hi0_1 j (by omega)]; simp)]; first | done | rfl)) rfl
          · have hbf := (Bool.not_eq_true _ ▸ hbd : badB ks hs m = false)
            refine W_rangeI (T' := [(0, .ros (ks.map i64) ks.length c), (3, .rop [.ros (hs.map i64) hs.length d] 0), (4, .ptr 0 0), (7, .ptr 1 0), (29, .ros (hs.map i64) hs.length d), (30, i64 ((hs.length : Nat) : Int)), (31, i64 ((m : Nat) : Int)), (38, .fn 95 [] [.rop [.ros (ks.map i64) ks.length c] 0, .rop [i64 ((m : Nat) : Int)] 0])]) (n := 2) rfl rfl (done_itN ks c hl hk m (by omega)) (fun i => [(0, some (.cells [i64 0] 27)), (1, some (.cells [i64 hs[m]] 3))]) ⟨eD rfl rfl, eD rfl rfl, e_ rfl rfl, e_ rfl rfl, eD rfl rfl, eD rfl rfl, eD rfl rfl, eD rfl rfl, trivial⟩ ⟨rD rfl rfl rfl, rD rfl rfl rfl, trivial⟩ rfl rfl rfl rfl rfl (fun i => ⟨rD rfl rfl rfl, rD rfl rfl rfl, trivial⟩) ?_ ?_
            · intro i x_ hx_ C_ hC_ N_ hN_
              obtain ⟨hi_, rfl⟩ := mapAt hx_
              have hx := doneN_lt hk (m := m) (by omega) hi_
              have hb1 := inL_get hin (i := (doneN ks m)[i]) (by omega)
              have hb0 := inL_get hin (i := m) (by omega)
              obtain ⟨_, w0_, Wr_, Φ0_, ro_, nt_, k0_, ρ0_⟩ := C_
              have hC2_ : _ = Try.prog := hC_
              subst hC2_
              intro ρ_ Φ_ w_ lc_
              refine W_reg rfl ?_
              refine Rv rfl rfl rfl (U_assign rfl) rfl rfl ?_
              refine Re rfl ?_
              refine ⟨rfl, ?_⟩
              refine W_block rfl ?_
              refine W_seq rfl ?_
              refine Wdraw rfl (by kernel_rfl) (by kernel_rfl) ?_
              refine Dv rfl rfl rfl (U_load1 rfl rfl rfl) rfl rfl ?_
              refine Dv rfl rfl rfl (U_move rfl) rfl rfl ?_
              have hx6 : ((doneN ks m)[i]) < hs.length := by omega
              refine Dv rfl rfl rfl (U_indexR (j := ((doneN ks m)[i])) rfl rfl rfl hx6) rfl rfl ?_
              refine Dv rfl rfl rfl (U_load1 rfl rfl (getM hx6)) rfl rfl ?_
              refine Dv rfl rfl rfl (U_load1 rfl rfl rfl) rfl rfl ?_
              refine Dv rfl rfl rfl (U_add rfl rfl (w64 (by omega) (by omega))) rfl rfl ?_
              refine Dv rfl rfl rfl (U_gtr rfl rfl) rfl rfl ?_
              refine Dr.nil rfl ?_
              refine thenQ_n ?_
              refine WcondP rfl rfl (fun hc4 => absurd hc4 (bad_f h8 (by omega) hi_ hx (by have := List.any_eq_false.1 hbf _ (List.getElem_mem hi_); simpa using this))) (fun hc4 => ?_)
              refine W_skip rfl ?_
              refine blkQ_n ?_
              refine ⟨rfl, ?_⟩
              exact hN_ _ _ ⟨rD rfl rfl rfl, rD rfl rfl rfl, trivial⟩
            try rw [List.length_map]
            refine blkQ_n ?_
            refine blkQ_n ?_
            refine thenQ_n ?_
            refine W_reg rfl ?_
            refine Rv rfl rfl rfl (U_add rfl rfl (w64e (m := ((m + 1 : Nat) : Int)) (by omega) (by omega) (by omega))) rfl rfl ?_
            refine Rv rfl rfl rfl (U_move rfl) rfl rfl ?_
            refine Re rfl ?_
            refine thenQ_n ?_
            exact againTo (T' := [(0, .ros (ks.map i64) ks.length c), (3, .rop [.ros (hs.map i64) hs.length d] 0), (4, .ptr 0 0), (29, .ros (hs.map i64) hs.length d), (30, i64 ((hs.length : Nat) : Int)), (31, i64 (((m + 1) : Nat) : Int))]) (H' := [(0, some (.cells [i64 0] 27))]) (n := 1) (hs.length - (m + 1)) ⟨m + 1, (by omega), (by intro j hj; rcases Nat.lt_succ_iff_lt_or_eq.1 hj with h | rfl; exact hi0_1 j h; exact hbf), rfl, rfl⟩ (by omega) id ⟨eD rfl rfl, eD rfl rfl, e_ rfl rfl, eD rfl rfl, eD rfl rfl, eD rfl rfl, trivial⟩ ⟨rD rfl rfl rfl, trivial⟩ rfl rfl rfl rfl (fun _ _ => rfl)
        · refine W_exit rfl ?_
          refine thenQ_x ?_
          refine thenQ_x ?_
          refine blkQ_x rfl ?_
          refine thenQ_n ?_
          refine W_seq rfl ?_
          refine W_reg rfl ?_
          refine Rn rfl rfl rfl (U_store1 rfl rfl rfl rfl) rfl ?_
          refine Re rfl ?_
          refine thenQ_n ?_
          refine W_ret rfl ?_
          exact retL (rlC rfl rfl rl0) (by first | rfl | (simp only [packA]; rw [chE, if_neg (by simpa using hc0), if_neg (by simpa using hc1), if_neg (by simpa using hc2), if_neg (by rw [any_rng fun j hj => hi0_1 j (by omega)]; simp)]; first | done | rfl)) rfl
theorem badR_t {ks hs : List Int} {m i : Nat} (h8 : hs.length = 8) (hm : m < 8) (hi : i < ks.length) (hk : 0 ≤ aft m ks[i] ∧ aft m ks[i] < 8) (h : hs[m]'(by omega) + 1 < hs[(aft m ks[i]).toNat]'(by omega)) : badB ks hs m = true := by
  refine List.any_eq_true.2 ⟨(aft m ks[i]).toNat, List.mem_map.2 ⟨ks[i], List.getElem_mem hi, rfl⟩, ?_⟩
  simp only [decide_eq_true_eq]; rw [getDI (by omega), getDI (by omega)]; exact h
theorem badR_f {ks hs : List Int} {m : Nat} (h : ∀ i (hi : i < ks.length), ¬ hs.getD m 0 + 1 < hs.getD (aft m ks[i]).toNat 0) : badB ks hs m = false := by
  refine List.any_eq_false.2 fun n hn => ?_
  obtain ⟨k, hk, rfl⟩ := List.mem_map.1 hn
  obtain ⟨i, hi, rfl⟩ := List.getElem_of_mem hk
  simpa using h i hi
theorem checkHeightsR_p (ks : List Int) (c : Option Nat) (hl : ks.length ≤ 1000000) (hs : List Int) (d : Option Nat) (hl2 : hs.length ≤ 1000000) : Pure Try.prog 42 [intsA ks c, intsA hs d] (i64 (chE ks hs)) := by
  refine pure_of_body Try.func42 (c := body Try.f42) rfl (by simp [Try.ntmps42]) fun w0 Φ0 => ?_
  refine W_seq rfl ?_
  refine W_reg rfl ?_
  refine Rv rfl rfl rfl (U_assign rfl) rfl rfl ?_
  refine Re rfl ?_
  refine thenQ_n ?_
  refine W_seq rfl ?_
  refine W_seq rfl ?_
  refine W_reg rfl ?_
  refine Rv rfl rfl rfl (U_move rfl) rfl rfl ?_
  refine Rv rfl rfl rfl (U_call rfl rfl (chkKR_p ks c (by first | assumption | omega)) rfl) rfl rfl ?_
  refine Rv rfl rfl rfl (U_neq rfl rfl) rfl rfl ?_
  refine Re rfl ?_
  refine thenQ_n ?_
  refine WcondP rfl rfl (fun hc0 => ?_) (fun hc0 => ?_)
  · have hce : chE ks hs = chkK ks := by rw [chE, if_pos hc0]
    rw [hce]
    refine W_seq rfl ?_
    refine W_reg rfl ?_
    refine Rv rfl rfl rfl (U_move rfl) rfl rfl ?_
    refine Rv rfl rfl rfl (U_call rfl rfl (chkKR_p ks c (by first | assumption | omega)) rfl) rfl rfl ?_
    refine Rv rfl rfl rfl (U_assign rfl) rfl rfl ?_
    refine Re rfl ?_
    refine thenQ_n ?_
    refine W_ret rfl ?_
    refine thenQ_r ?_
    exact retL (rlT rfl rl0) (by first | rfl | (simp only [packA]; rfl; first | done | rfl)) rfl
  · rw [Decidable.not_not] at hc0
    have hk : ∀ x ∈ ks, 0 ≤ x ∧ x < 8 := fun x hx => by have := okK_get (chkK_ok hc0) x hx; omega
    refine W_skip rfl ?_
    refine thenQ_n ?_
    refine W_seq rfl ?_
    refine W_seq rfl ?_
    refine W_reg rfl ?_
    refine Rv rfl rfl rfl (U_move rfl) rfl rfl ?_
    refine Rv rfl rfl rfl (U_lenOf rfl len_ros) rfl rfl ?_
    refine Rv rfl rfl rfl (U_neq rfl rfl) rfl rfl ?_
    refine Re rfl ?_
    refine thenQ_n ?_
    refine WcondP rfl rfl (fun hc1 => ?_) (fun hc1 => ?_)
    · have hce : chE ks hs = 15 := by rw [chE, if_neg (by simpa using hc0), if_pos (by simpa using hc1)]
      rw [hce]
      refine W_seq rfl ?_
      refine W_reg rfl ?_
      refine Rv rfl rfl rfl (U_assign rfl) rfl rfl ?_
      refine Re rfl ?_
      refine thenQ_n ?_
      refine W_ret rfl ?_
      refine thenQ_r ?_
      exact retL (rlT rfl rl0) (by first | rfl | (simp only [packA]; rfl; first | done | rfl)) rfl
    · rw [Decidable.not_not] at hc1
      have h8 : hs.length = 8 := by omega
      refine W_skip rfl ?_
      refine thenQ_n ?_
      refine W_seq rfl ?_
      refine W_seq rfl ?_
      refine W_reg rfl ?_
      refine Rv rfl rfl rfl (U_assign rfl) rfl rfl ?_
      refine Re rfl ?_
      refine thenQ_n ?_
      refine W_block rfl ?_
      refine LoopTo (T' := [(0, .ros (ks.map i64) ks.length c), (1, .ros (hs.map i64) hs.length d), (5, i64 ((0 : Nat) : Int))]) (H' := []) (n := 0) rfl (fun mz_ qz_ => ∃ (k : Nat), k ≤ 8 ∧ (∀ j (hj : j < hs.length), j < k → (fun n => decide (0 ≤ n) && decide (n ≤ 20)) hs[j] = true) ∧ mz_ = 8 - k ∧ qz_ = ⟨[(0, .ros (ks.map i64) ks.length c), (1, .ros (hs.map i64) hs.length d), (5, i64 ((k : Nat) : Int))], [], 0, []⟩) ⟨0, (by omega), (fun j hj h => absurd h (Nat.not_lt_zero _)), rfl, rfl⟩ id ⟨eD rfl rfl, eD rfl rfl, eD rfl rfl, trivial⟩ trivial rfl rfl rfl rfl (fun _ _ => rfl) ?_
      rintro _ _ ⟨k, hi0_0, hi0_1, rfl, rfl⟩
      refine W_seq rfl ?_
      refine W_seq rfl ?_
      refine W_reg rfl ?_
      refine Rv rfl rfl rfl (U_move rfl) rfl rfl ?_
      refine Rv rfl rfl rfl (U_lss rfl rfl) rfl rfl ?_
      refine Re rfl ?_
      refine thenQ_n ?_
      refine WcondP rfl rfl (fun hc2 => ?_) (fun hc2 => ?_)
      · refine W_skip rfl ?_
        refine thenQ_n ?_
        refine W_seq rfl ?_
        refine W_block rfl ?_
        refine W_seq rfl ?_
        refine Wjoin ⟨[(0, .ros (ks.map i64) ks.length c), (1, .ros (hs.map i64) hs.length d), (5, i64 ((k : Nat) : Int)), (31, .bool ((decide (hs[k] < 0)) || (decide (20 < hs[k]))))], [], 0, []⟩ ?_ ?_
        · refine W_reg rfl ?_
          refine Rv rfl rfl rfl (U_move rfl) rfl rfl ?_
          refine Rv rfl rfl rfl (U_move rfl) rfl rfl ?_
          have hx1 : k < hs.length := by omega
          refine Rv rfl rfl rfl (U_indexR (j := k) rfl rfl rfl hx1) rfl rfl ?_
          refine Rv rfl rfl rfl (U_load1 rfl rfl (getM hx1)) rfl rfl ?_
          refine Rv rfl rfl rfl (U_lss rfl rfl) rfl rfl ?_
          refine Rv rfl rfl rfl (U_move rfl) rfl rfl ?_
          refine Rsplit (t := 25) rfl (fun hg2 => ?_) (fun hg2 => ?_)
          · rw [hg2]
            have hg2' : hs[k] < 0 := of_decide_eq_true hg2
            refine Rs rfl rfl rfl rfl rfl ?_
            refine Rs rfl rfl rfl rfl rfl ?_
            refine Rs rfl rfl rfl rfl rfl ?_
            refine Rs rfl rfl rfl rfl rfl ?_
            refine Rs rfl rfl rfl rfl rfl ?_
            refine Rv rfl rfl rfl (U_pick_t rfl rfl) rfl rfl ?_
            refine Re rfl ?_
            exact joinTo id ⟨eD rfl rfl, eD rfl rfl, eD rfl rfl, eD rfl rfl, trivial⟩ trivial rfl rfl rfl rfl (fun _ _ => rfl)
          · rw [hg2]
            have hg2' : ¬ (hs[k] < 0) := of_decide_eq_false hg2
            refine Rv rfl rfl rfl (U_move rfl) rfl rfl ?_
            refine Rv rfl rfl rfl (U_move rfl) rfl rfl ?_
            refine Rv rfl rfl rfl (U_indexR (j := k) rfl rfl rfl hx1) rfl rfl ?_
            refine Rv rfl rfl rfl (U_load1 rfl rfl (getM hx1)) rfl rfl ?_
            refine Rv rfl rfl rfl (U_gtr rfl rfl) rfl rfl ?_
            refine Rv rfl rfl rfl (U_pick_f rfl rfl) rfl rfl ?_
            refine Re rfl ?_
            exact joinTo id ⟨eD rfl rfl, eD rfl rfl, eD rfl rfl, eD rfl rfl, trivial⟩ trivial rfl rfl rfl rfl (fun _ _ => rfl)
        refine thenQ_n ?_
        refine Wcond rfl rfl (fun hc3 => ?_) (fun hc3 => ?_)
        · have hce : chE ks hs = 3 := by rw [chE, if_neg (by simpa using hc0), if_neg (by omega), if_pos (by rw [show inL 0 20 hs = false from allB_false (j := k) (by omega) (by simp at hc3 ⊢; omega)]; rfl)]
          rw [hce]
          refine W_seq rfl ?_
          refine W_reg rfl ?_
          refine Rv rfl rfl rfl (U_assign rfl) rfl rfl ?_
          refine Re rfl ?_
          refine thenQ_n ?_
          refine W_ret rfl ?_
          refine blkQ_r ?_
          refine thenQ_r ?_
          refine thenQ_r ?_
          refine blkQ_r ?_
          refine thenQ_r ?_
          exact retL (rlT rfl rl0) (by first | rfl | (simp only [packA]; rfl; first | done | rfl)) rfl
        · have hc3' := Bool.eq_false_iff.1 hc3
          refine W_skip rfl ?_
          refine blkQ_n ?_
          refine thenQ_n ?_
          refine W_reg rfl ?_
          refine Rv rfl rfl rfl (U_move rfl) rfl rfl ?_
          refine Rv rfl rfl rfl (U_add rfl rfl (w64e (m := ((k + 1 : Nat) : Int)) (by omega) (by omega) (by omega))) rfl rfl ?_
          refine Rv rfl rfl rfl (U_assign rfl) rfl rfl ?_
          refine Re rfl ?_
          refine thenQ_n ?_
          exact againTo (T' := [(0, .ros (ks.map i64) ks.length c), (1, .ros (hs.map i64) hs.length d), (5, i64 (((k + 1) : Nat) : Int))]) (H' := []) (n := 0) (8 - (k + 1)) ⟨k + 1, (by omega), (by intro j hj h; rcases Nat.lt_succ_iff_lt_or_eq.1 h with h | rfl; exact hi0_1 j hj h; simp at hc3 ⊢; omega), rfl, rfl⟩ (by omega) id ⟨eD rfl rfl, eD rfl rfl, eD rfl rfl, trivial⟩ trivial rfl rfl rfl rfl (fun _ _ => rfl)
      · have hin : inL 0 20 hs = true := allB_true fun j hj => hi0_1 j hj (by omega)
        refine W_exit rfl ?_
        refine thenQ_x ?_
        refine thenQ_x ?_
        refine blkQ_x rfl ?_
        refine thenQ_n ?_
        refine W_seq rfl ?_
        refine W_seq rfl ?_
        refine W_reg rfl ?_
        refine Rv rfl rfl rfl (U_move rfl) rfl rfl ?_
        have hx3 : 0 < hs.length := by omega
        refine Rv rfl rfl rfl (U_indexR (j := 0) rfl rfl rfl hx3) rfl rfl ?_
        refine Rv rfl rfl rfl (U_load1 rfl rfl (getM hx3)) rfl rfl ?_
        refine Rv rfl rfl rfl (U_neq rfl rfl) rfl rfl ?_
        refine Re rfl ?_
        refine thenQ_n ?_
        refine WcondP rfl rfl (fun hc4 => ?_) (fun hc4 => ?_)
        · have hce : chE ks hs = 3 := by rw [chE, if_neg (by simpa using hc0), if_neg (by omega), if_pos (by rw [hin, getDI (by omega)]; simpa using hc4)]
          rw [hce]
          refine W_seq rfl ?_
          refine W_reg rfl ?_
          refine Rv rfl rfl rfl (U_assign rfl) rfl rfl ?_
          refine Re rfl ?_
          refine thenQ_n ?_
          refine W_ret rfl ?_
          refine thenQ_r ?_
          exact retL (rlT rfl rl0) (by first | rfl | (simp only [packA]; rfl; first | done | rfl)) rfl
        · rw [Decidable.not_not] at hc4
          refine W_skip rfl ?_
          refine thenQ_n ?_
          refine W_seq rfl ?_
          refine W_seq rfl ?_
          refine W_reg rfl ?_
          refine Rv rfl rfl rfl (U_assign rfl) rfl rfl ?_
          refine Re rfl ?_
          refine thenQ_n ?_
          refine W_block rfl ?_
          refine LoopTo (T' := [(0, .ros (ks.map i64) ks.length c), (1, .ros (hs.map i64) hs.length d), (6, i64 ((0 : Nat) : Int))]) (H' := []) (n := 0) rfl (fun mz_ qz_ => ∃ (m : Nat), m ≤ 8 ∧ (∀ j, j < m → badB ks hs j = false) ∧ mz_ = 8 - m ∧ qz_ = ⟨[(0, .ros (ks.map i64) ks.length c), (1, .ros (hs.map i64) hs.length d), (6, i64 ((m : Nat) : Int))], [], 0, []⟩) ⟨0, (by omega), (fun j hj => absurd hj (Nat.not_lt_zero _)), rfl, rfl⟩ id ⟨eD rfl rfl, eD rfl rfl, eD rfl rfl, trivial⟩ trivial rfl rfl rfl rfl (fun _ _ => rfl) ?_
          rintro _ _ ⟨m, hi1_0, hi1_1, rfl, rfl⟩
          refine W_seq rfl ?_
          refine W_seq rfl ?_
          refine W_reg rfl ?_
          refine Rv rfl rfl rfl (U_move rfl) rfl rfl ?_
          refine Rv rfl rfl rfl (U_lss rfl rfl) rfl rfl ?_
          refine Re rfl ?_
          refine thenQ_n ?_
          refine WcondP rfl rfl (fun hc5 => ?_) (fun hc5 => ?_)
          · refine W_skip rfl ?_
            refine thenQ_n ?_
            refine W_seq rfl ?_
            refine W_block rfl ?_
            refine W_seq rfl ?_
            refine W_reg rfl ?_
            refine Rv rfl rfl rfl (U_assign rfl) rfl rfl ?_
            refine Re rfl ?_
            refine thenQ_n ?_
            refine W_block rfl ?_
            refine LoopTo (T' := [(0, .ros (ks.map i64) ks.length c), (1, .ros (hs.map i64) hs.length d), (6, i64 ((m : Nat) : Int)), (7, i64 ((0 : Nat) : Int))]) (H' := []) (n := 0) rfl (fun mz_ qz_ => ∃ (i : Nat), i ≤ ks.length ∧ (∀ j (hj : j < ks.length), j < i → ¬ hs.getD m 0 + 1 < hs.getD (aft m ks[j]).toNat 0) ∧ mz_ = ks.length - i ∧ qz_ = ⟨[(0, .ros (ks.map i64) ks.length c), (1, .ros (hs.map i64) hs.length d), (6, i64 ((m : Nat) : Int)), (7, i64 ((i : Nat) : Int))], [], 0, []⟩) ⟨0, (by omega), (fun j hj h => absurd h (Nat.not_lt_zero _)), rfl, rfl⟩ id ⟨eD rfl rfl, eD rfl rfl, eD rfl rfl, eD rfl rfl, trivial⟩ trivial rfl rfl rfl rfl (fun _ _ => rfl) ?_
            rintro _ _ ⟨i, hi2_0, hi2_1, rfl, rfl⟩
            refine W_seq rfl ?_
            refine W_seq rfl ?_
            refine W_reg rfl ?_
            refine Rv rfl rfl rfl (U_move rfl) rfl rfl ?_
            refine Rv rfl rfl rfl (U_move rfl) rfl rfl ?_
            refine Rv rfl rfl rfl (U_lenOf rfl len_ros) rfl rfl ?_
            refine Rv rfl rfl rfl (U_lss rfl rfl) rfl rfl ?_
            refine Re rfl ?_
            refine thenQ_n ?_
            refine WcondP rfl rfl (fun hc6 => ?_) (fun hc6 => ?_)
            · have hci : i < ks.length := by omega
              have hkk := hk _ (List.getElem_mem hci)
              have hda := after_in (a := m) (b := ks[i]) (by omega) hkk
              have hx : (aft m ks[i]).toNat < 8 := by omega
              have hb1 := inL_get hin (i := (aft m ks[i]).toNat) (by omega)
              have hb0 := inL_get hin (i := m) (by omega)
              refine W_skip rfl ?_
              refine thenQ_n ?_
              refine W_seq rfl ?_
              refine W_block rfl ?_
              refine W_seq rfl ?_
              refine Wdraw rfl (by kernel_rfl) (by kernel_rfl) ?_
              refine Dv rfl rfl rfl (U_move rfl) rfl rfl ?_
              refine Dv rfl rfl rfl (U_move rfl) rfl rfl ?_
              refine Dv rfl rfl rfl (U_move rfl) rfl rfl ?_
              refine Dv rfl rfl rfl (U_move rfl) rfl rfl ?_
              have hx4 : i < ks.length := by omega
              refine Dv rfl rfl rfl (U_indexR (j := i) rfl rfl rfl hx4) rfl rfl ?_
              refine Dv rfl rfl rfl (U_load1 rfl rfl (getM hx4)) rfl rfl ?_
              refine Dv rfl rfl rfl (U_call rfl rfl (afterR_p ((m : Nat) : Int) ks[i] (by first | assumption | omega) (by first | assumption | omega)) rfl) rfl rfl ?_
              have hx5 : (aft ((m : Nat) : Int) ks[i]).toNat < hs.length := by omega
              refine Dv rfl rfl rfl (U_indexR (j := (aft ((m : Nat) : Int) ks[i]).toNat) rfl rfl (by omega) hx5) rfl rfl ?_
              refine Dv rfl rfl rfl (U_load1 rfl rfl (getM hx5)) rfl rfl ?_
              refine Dv rfl rfl rfl (U_move rfl) rfl rfl ?_
              refine Dv rfl rfl rfl (U_move rfl) rfl rfl ?_
              have hx6 : m < hs.length := by omega
              refine Dv rfl rfl rfl (U_indexR (j := m) rfl rfl rfl hx6) rfl rfl ?_
              refine Dv rfl rfl rfl (U_load1 rfl rfl (getM hx6)) rfl rfl ?_
              refine Dv rfl rfl rfl (U_add rfl rfl (w64 (by omega) (by omega))) rfl rfl ?_
              refine Dv rfl rfl rfl (U_gtr rfl rfl) rfl rfl ?_
              refine Dr.nil rfl ?_
              refine thenQ_n ?_
              refine WcondP rfl rfl (fun hc7 => ?_) (fun hc7 => ?_)
              · have hce : chE ks hs = 14 := by rw [chE, if_neg (by simpa using hc0), if_neg (by omega), if_neg (by rw [hin, getDI (by omega)]; simp [hc4]), if_pos (any_rngT (j := m) (by omega) (badR_t h8 (by omega) hci hda hc7))]
                rw [hce]
                refine W_seq rfl ?_
                refine W_reg rfl ?_
                refine Rv rfl rfl rfl (U_assign rfl) rfl rfl ?_
                refine Re rfl ?_
                refine thenQ_n ?_
                refine W_ret rfl ?_
                refine blkQ_r ?_
                refine thenQ_r ?_
                refine thenQ_r ?_
                refine blkQ_r ?_
                refine blkQ_r ?_
                refine thenQ_r ?_
                refine thenQ_r ?_
                refine blkQ_r ?_
                refine thenQ_r ?_
                exact retL (rlT rfl rl0) (by first | rfl | (simp only [packA]; rfl; first | done | rfl)) rfl
              · refine W_skip rfl ?_
                refine blkQ_n ?_
                refine thenQ_n ?_
                refine W_reg rfl ?_
                refine Rv rfl rfl rfl (U_move rfl) rfl rfl ?_
                refine Rv rfl rfl rfl (U_add rfl rfl (w64e (m := ((i + 1 : Nat) : Int)) (by omega) (by omega) (by omega))) rfl rfl ?_
                refine Rv rfl rfl rfl (U_assign rfl) rfl rfl ?_
                refine Re rfl ?_
                refine thenQ_n ?_
                exact againTo (T' := [(0, .ros (ks.map i64) ks.length c), (1, .ros (hs.map i64) hs.length d), (6, i64 ((m : Nat) : Int)), (7, i64 (((i + 1) : Nat) : Int))]) (H' := []) (n := 0) (ks.length - (i + 1)) ⟨i + 1, (by omega), (by intro j hj h; rcases Nat.lt_succ_iff_lt_or_eq.1 h with h | rfl; exact hi2_1 j hj h; rw [getDI (by omega), getDI (by omega)]; exact hc7), rfl, rfl⟩ (by omega) id ⟨eD rfl rfl, eD rfl rfl, eD rfl rfl, eD rfl rfl, trivial⟩ trivial rfl rfl rfl rfl (fun _ _ => rfl)
            · refine W_exit rfl ?_
              refine thenQ_x ?_
              refine thenQ_x ?_
              refine blkQ_x rfl ?_
              refine blkQ_n ?_
              refine thenQ_n ?_
              refine W_reg rfl ?_
              refine Rv rfl rfl rfl (U_move rfl) rfl rfl ?_
              refine Rv rfl rfl rfl (U_add rfl rfl (w64e (m := ((m + 1 : Nat) : Int)) (by omega) (by omega) (by omega))) rfl rfl ?_
              refine Rv rfl rfl rfl (U_assign rfl) rfl rfl ?_
              refine Re rfl ?_
              refine thenQ_n ?_
              exact againTo (T' := [(0, .ros (ks.map i64) ks.length c), (1, .ros (hs.map i64) hs.length d), (6, i64 (((m + 1) : Nat) : Int))]) (H' := []) (n := 0) (8 - (m + 1)) ⟨m + 1, (by omega), (by intro j hj; rcases Nat.lt_succ_iff_lt_or_eq.1 hj with h | rfl; exact hi1_1 j h; exact badR_f fun j hj => hi2_1 j hj (by omega)), rfl, rfl⟩ (by omega) id ⟨eD rfl rfl, eD rfl rfl, eD rfl rfl, trivial⟩ trivial rfl rfl rfl rfl (fun _ _ => rfl)
          · have hce : chE ks hs = 0 := by rw [chE, if_neg (by simpa using hc0), if_neg (by omega), if_neg (by rw [hin, getDI (by omega)]; simp [hc4]), if_neg (by rw [any_rng fun j hj => hi1_1 j (by omega)]; simp)]
            rw [hce]
            refine W_exit rfl ?_
            refine thenQ_x ?_
            refine thenQ_x ?_
            refine blkQ_x rfl ?_
            refine thenQ_n ?_
            refine W_seq rfl ?_
            refine W_reg rfl ?_
            refine Rv rfl rfl rfl (U_assign rfl) rfl rfl ?_
            refine Re rfl ?_
            refine thenQ_n ?_
            refine W_ret rfl ?_
            exact retL (rlT rfl rl0) (by first | rfl | (simp only [packA]; rfl; first | done | rfl)) rfl
end Go.Proofs.Ythoodfiacfmhgaa
end

section
/- Contracts of package plate: circles. -/
namespace Go.Proofs.Ythoodfiacfmhgaa
set_option maxRecDepth 20000
open Go.AE
/-- A motion, some times. -/
def itS (n m : Int) : Nat → Int × Int → Int × Int
  | 0, q => q
  | k + 1, q => toS n m (itS n m k q)
theorem itS_in {n m : Int} {q : Int × Int} (h : InS n q) : ∀ k, InS n (itS n m k q)
  | 0 => h
  | k + 1 => toS_in (itS_in h k)
theorem itS4 (n : Int) (q : Int × Int) {m : Int} (hm : 0 ≤ m ∧ m < 8) : itS n m 4 q = q := by
  refine toS_cases (P := fun m => itS n m 4 q = q) ?_ hm
  obtain ⟨a, b⟩ := q
  refine ⟨?_, ?_, ?_, ?_, ?_, ?_, ?_, ?_⟩ <;>
    (simp only [itS, to0, to1, to2, to3, to4, to5, to6, to7, Prod.mk.injEq]
     first | done | (refine ⟨?_, ?_⟩ <;> first | trivial | omega))
theorem itS_add {n m : Int} {q : Int × Int} (a : Nat) : ∀ b, itS n m (a + b) q = itS n m b (itS n m a q)
  | 0 => rfl
  | b + 1 => by rw [← Nat.add_assoc, itS, itS_add a b, itS]
abbrev spo (N i : Nat) : Int × Int := (((i / N : Nat) : Int), ((i % N : Nat) : Int))
/-- Where a dot comes, by some times the motion. -/
def itP (N : Nat) (m : Int) (k i : Nat) : Nat := numS N (itS N m k (spo N i))
/-- The least spot of a circle. -/
def lst (N : Nat) (m : Int) (i : Nat) : Nat := min (min i (itP N m 1 i)) (min (itP N m 2 i) (itP N m 3 i))
/-- How many circles a motion has. -/
def cirQ (N : Nat) (m : Int) : Nat := ((List.range (N * N)).filter fun i => decide (lst N m i = i)).length
def cirK (N : Nat) (m : Int) (k : Nat) : Nat := ((List.range k).filter fun i => decide (lst N m i = i)).length
theorem cirK_t {N : Nat} {m : Int} {k : Nat} (h : lst N m k = k) : cirK N m (k + 1) = cirK N m k + 1 := by simp [cirK, List.range_succ, List.filter_append, h]
theorem cirK_f {N : Nat} {m : Int} {k : Nat} (h : lst N m k ≠ k) : cirK N m (k + 1) = cirK N m k := by simp [cirK, List.range_succ, List.filter_append, h]
theorem cirK_le {N : Nat} {m : Int} {k : Nat} : cirK N m k ≤ k := Nat.le_trans (List.length_filter_le _ _) (by simp)
section
variable {N : Nat} {m : Int}
theorem num_lt (h2 : N ≤ 8) {q : Int × Int} (h : InS N q) : numS N q < N * N := by
  have := (pos_bd h2 h).2.2
  unfold numS
  have e : ((N * N : Nat) : Int) = (N : Int) * N := by exact_mod_cast rfl
  omega
theorem num_cast (h2 : N ≤ 8) {q : Int × Int} (h : InS N q) : q.1 * N + q.2 = ((numS N q : Nat) : Int) := by
  have := (pos_bd h2 h).2.2.1
  unfold numS; omega
theorem itP_lt (h1 : 1 ≤ N) (h2 : N ≤ 8) {i : Nat} (hi : i < N * N) (k : Nat) : itP N m k i < N * N := num_lt h2 (itS_in (in_sq h1 hi) k)
theorem itP_spo (h1 : 1 ≤ N) {i : Nat} (hi : i < N * N) (k : Nat) : spo N (itP N m k i) = itS N m k (spo N i) := num_spot h1 (itS_in (in_sq h1 hi) k)
theorem itP_add (h1 : 1 ≤ N) {i : Nat} (hi : i < N * N) (a b : Nat) : itP N m b (itP N m a i) = itP N m (a + b) i := by
  unfold itP
  rw [itS_add]; congr 2; exact itP_spo h1 hi a
theorem itP0 (i : Nat) : itP N m 0 i = i := spot_num
theorem itP4 (h1 : 1 ≤ N) (hm : 0 ≤ m ∧ m < 8) {i : Nat} (hi : i < N * N) (k : Nat) : itP N m (4 + k) i = itP N m k i := by
  unfold itP; rw [itS_add, itS4 _ _ hm]
theorem lst_le (i : Nat) : lst N m i ≤ i ∧ lst N m i ≤ itP N m 1 i ∧ lst N m i ≤ itP N m 2 i ∧ lst N m i ≤ itP N m 3 i := by unfold lst; omega
theorem lst_mem (i : Nat) : lst N m i = i ∨ lst N m i = itP N m 1 i ∨ lst N m i = itP N m 2 i ∨ lst N m i = itP N m 3 i := by unfold lst; omega
theorem lst_step (h1 : 1 ≤ N) (h2 : N ≤ 8) (hm : 0 ≤ m ∧ m < 8) {i : Nat} (hi : i < N * N) : lst N m (itP N m 1 i) = lst N m i := by
  have a1 := itP_add (m := m) h1 hi 1 1
  have a2 := itP_add (m := m) h1 hi 1 2
  have a3 := itP_add (m := m) h1 hi 1 3
  have a4 := itP4 h1 hm hi 0
  have a0 := itP0 (N := N) (m := m) i
  simp only [Nat.add_zero] at a4
  simp only [show 1 + 1 = 2 from rfl, show 1 + 2 = 3 from rfl, show 1 + 3 = 4 from rfl] at a1 a2 a3
  unfold lst
  rw [a1, a2, a3, a4, a0]; omega
theorem lst_it (h1 : 1 ≤ N) (h2 : N ≤ 8) (hm : 0 ≤ m ∧ m < 8) {i : Nat} (hi : i < N * N) : ∀ k, lst N m (itP N m k i) = lst N m i
  | 0 => by rw [itP0]
  | k + 1 => by rw [← itP_add h1 hi k 1, lst_step h1 h2 hm (itP_lt h1 h2 hi k), lst_it h1 h2 hm hi k]
/-- A spot whose circle's least one is another one is on that one's circle. -/
theorem lst_on (h1 : 1 ≤ N) (h2 : N ≤ 8) (hm : 0 ≤ m ∧ m < 8) {i j : Nat} (hj : j < N * N) (h : lst N m j = i) : ∃ k, k < 4 ∧ itP N m k i = j := by
  have key : ∀ k, k < 4 → itP N m k j = i → ∃ k, k < 4 ∧ itP N m k i = j := fun k hk e => by
    refine ⟨(4 - k) % 4, by omega, ?_⟩
    rw [← e, itP_add h1 hj]
    by_cases h0 : k = 0
    · subst h0; exact itP0 j
    · rw [show k + (4 - k) % 4 = 4 + 0 by omega, itP4 h1 hm hj, itP0]
  rcases lst_mem (N := N) (m := m) j with e | e | e | e
  · exact key 0 (by omega) (by rw [itP0]; omega)
  · exact key 1 (by omega) (by omega)
  · exact key 2 (by omega) (by omega)
  · exact key 3 (by omega) (by omega)
/-- Whether a spot was seen. -/
def sawB (M : Spots) (q : Int × Int) : Prop := ¬ (mget M q).getD 0 = 0
theorem mget_put {ck : Nat} {M : Spots} {k q : Int × Int} {v : Int} : mget (mput ck M k v) q = if q = k then some v else mget M q := by
  induction M with
  | nil =>
    simp only [mput, mget]
    by_cases h : q = k
    · subst h; simp
    · rw [if_neg (fun e => h e.symm), if_neg h]
  | cons e M ih =>
    simp only [mput]
    split
    · rename_i he
      simp only [mget]
      by_cases h : q = k
      · subst h; simp
      · rw [if_neg (fun e => h e.symm), if_neg h, if_neg (fun e2 => h (by rw [← he, e2]))]
    · rename_i he
      simp only [mget]
      by_cases h : e.1 = q
      · rw [if_pos h, if_pos h, if_neg (fun e2 => he (h.trans e2))]
      · rw [if_neg h, if_neg h, ih]
theorem saw_put {ck : Nat} {M : Spots} {k q : Int × Int} {v : Int} (hv : v ≠ 0) : sawB (mput ck M k v) q ↔ q = k ∨ sawB M q := by
  unfold sawB
  rw [mget_put]
  split
  · rename_i h; simp [h, hv]
  · rename_i h; simp [h]
theorem spo_inj {i j : Nat} (h : spo N i = spo N j) : i = j := by
  simp only [spo, Prod.mk.injEq] at h
  have h1 : i / N = j / N := by exact_mod_cast h.1
  have h2 : i % N = j % N := by exact_mod_cast h.2
  rw [← Nat.div_add_mod i N, ← Nat.div_add_mod j N, h1, h2]
/-- What was seen ahead of a spot. -/
def SawI (N : Nat) (m : Int) (M : Spots) (i : Nat) : Prop := ∀ j, j < N * N → (sawB M (spo N j) ↔ lst N m j < i)
/-- .. and within a circle. -/
def SawK (N : Nat) (m : Int) (M : Spots) (i k : Nat) : Prop := ∀ j, j < N * N → (sawB M (spo N j) ↔ lst N m j < i ∨ ∃ a, a < k ∧ itP N m a i = j)
theorem saw_0 : SawI N m [] 0 := fun j _ => by simp [sawB, mget]
theorem saw_start {M : Spots} {i : Nat} (h : SawI N m M i) : SawK N m M i 0 := fun j hj => by rw [h j hj]; simp
theorem saw_next (h1 : 1 ≤ N) (h2 : N ≤ 8) {M : Spots} {i k ck : Nat} {n : Int} (hi : i < N * N) (h : SawK N m M i k) (hn : n ≠ 0) : SawK N m (mput ck M (itS N m k (spo N i)) n) i (k + 1) := fun j hj => by
  rw [saw_put hn, h j hj, ← itP_spo h1 hi k]
  constructor
  · rintro (h | h | ⟨a, h3, h4⟩)
    · exact .inr ⟨k, by omega, (spo_inj h).symm⟩
    · exact .inl h
    · exact .inr ⟨a, by omega, h4⟩
  · rintro (h | ⟨a, h3, h4⟩)
    · exact .inr (.inl h)
    · by_cases e : a = k
      · subst e; exact .inl (by rw [h4])
      · exact .inr (.inr ⟨a, by omega, h4⟩)
theorem saw_stop (h1 : 1 ≤ N) (h2 : N ≤ 8) (hm : 0 ≤ m ∧ m < 8) {M : Spots} {i k : Nat} (hi : i < N * N) (hl : lst N m i = i) (h : SawK N m M i k) (hs : sawB M (itS N m k (spo N i))) : SawI N m M (i + 1) := by
  rw [← itP_spo h1 hi k, h _ (itP_lt h1 h2 hi k), lst_it h1 h2 hm hi k, hl] at hs
  obtain ⟨a, ha, e⟩ := hs.resolve_left (Nat.lt_irrefl _)
  -- the circle is closed
  have hcl : ∀ b, ∃ a, a < k ∧ itP N m a i = itP N m b i := by
    intro b
    induction b with
    | zero => exact ⟨0, by omega, rfl⟩
    | succ b ih =>
      obtain ⟨c, hc, e2⟩ := ih
      by_cases h3 : c + 1 < k
      · exact ⟨c + 1, h3, by rw [← itP_add h1 hi c 1, e2, itP_add h1 hi b 1]⟩
      · have : c + 1 = k := by omega
        exact ⟨a, ha, by rw [e, ← this, ← itP_add h1 hi c 1, e2, itP_add h1 hi b 1]⟩
  intro j hj
  rw [h j hj]
  constructor
  · rintro (h3 | ⟨b, _, h4⟩)
    · omega
    · rw [← h4, lst_it h1 h2 hm hi b, hl]; omega
  · intro h3
    by_cases h4 : lst N m j < i
    · exact .inl h4
    · obtain ⟨b, _, h5⟩ := lst_on h1 h2 hm hj (show lst N m j = i by omega)
      obtain ⟨c, hc, h6⟩ := hcl b
      exact .inr ⟨c, hc, h6.trans h5⟩
theorem saw_lt (h1 : 1 ≤ N) (h2 : N ≤ 8) (hm : 0 ≤ m ∧ m < 8) {M : Spots} {i k : Nat} (hi : i < N * N) (h : SawK N m M i k) (hs : ¬ sawB M (itS N m k (spo N i))) : k < 4 := by
  rcases Nat.lt_or_ge k 4 with h3 | h3
  · exact h3
  · refine absurd ?_ hs
    rw [← itP_spo h1 hi k, h _ (itP_lt h1 h2 hi k)]
    refine .inr ⟨k - 4, by omega, ?_⟩
    rw [← itP4 h1 hm hi (k - 4)]; congr 1; omega
theorem saw_skip (h1 : 1 ≤ N) (h2 : N ≤ 8) (hm : 0 ≤ m ∧ m < 8) {M : Spots} {i : Nat} (hi : i < N * N) (h : SawI N m M i) (hs : sawB M (spo N i)) : lst N m i ≠ i ∧ SawI N m M (i + 1) := by
  have h3 := (h i hi).1 hs
  refine ⟨by omega, fun j hj => ?_⟩
  rw [h j hj]
  constructor
  · intro h4; omega
  · intro h4
    by_cases h5 : lst N m j = i
    · obtain ⟨b, _, h6⟩ := lst_on h1 h2 hm hj h5
      have := lst_it h1 h2 hm hi b
      rw [h6] at this; omega
    · omega
theorem saw_new {M : Spots} {i : Nat} (hi : i < N * N) (h : SawI N m M i) (hs : ¬ sawB M (spo N i)) : lst N m i = i := by
  have h3 := mt (h i hi).2 hs
  have := (lst_le (N := N) (m := m) i).1; omega
end
theorem circles_p (N : Nat) (hlo : 1 ≤ N) (hhi : N ≤ 8) (m : Int) (hm : 0 ≤ m ∧ m < 8) : Pure Try.prog 69 [i64 (N : Nat), i64 m] (i64 (cirQ N m : Nat)) := by
  have hsq : N * N ≤ 64 := Nat.mul_le_mul hhi hhi
  have hsqi : ((N * N : Nat) : Int) = (N : Int) * N := by exact_mod_cast rfl
  refine pure_of_body Try.func69 (c := body Try.f69) rfl (by simp [Try.ntmps69]) fun w0 Φ0 => ?_
  refine W_seq rfl ?_
  refine W_reg rfl ?_
  refine Rv rfl rfl rfl (U_assign rfl) rfl rfl ?_
  refine Re rfl ?_
  refine thenQ_n ?_
  refine W_seq rfl ?_
  refine W_reg rfl ?_
  refine Ra rfl rfl rfl (U_makeMap) rfl rfl rfl ?_
  refine Rv rfl rfl rfl (U_assign rfl) rfl rfl ?_
  refine Re rfl ?_
  refine thenQ_n ?_
  refine W_seq rfl ?_
  refine W_reg rfl ?_
  refine Rv rfl rfl rfl (U_assign rfl) rfl rfl ?_
  refine Re rfl ?_
  refine thenQ_n ?_
  refine W_seq rfl ?_
  refine W_seq rfl ?_
  refine W_reg rfl ?_
  refine Rv rfl rfl rfl (U_move rfl) rfl rfl ?_
  refine Rv rfl rfl rfl (U_move rfl) rfl rfl ?_
  refine Rv rfl rfl rfl (U_mul rfl rfl (w64e (m := ((N * N : Nat) : Int)) (by omega) (by omega) (by omega))) rfl rfl ?_
  refine Rv rfl rfl rfl (U_move rfl) rfl rfl ?_
  refine Re rfl ?_
  refine thenQ_n ?_
  refine W_block rfl ?_
  refine LoopTo (T' := [(0, i64 ((N : Nat) : Int)), (1, i64 m), (5, .mapl 0), (6, i64 ((0 : Nat) : Int)), (12, i64 ((N * N : Nat) : Int)), (13, i64 ((0 : Nat) : Int))]) (H' := [(0, some (.map (mE spotA i64 ([] : List ((Int × Int) × Int × Nat))) 0))]) (n := 1) rfl (fun mz_ qz_ => ∃ (i : Nat) (M : Spots) (ck : Nat) (n : Nat), i ≤ N * N ∧ SawI N m M i ∧ n = cirK N m i ∧ (∀ q, 0 ≤ (mget M q).getD 0) ∧ mz_ = N * N - i ∧ qz_ = ⟨[(0, i64 ((N : Nat) : Int)), (1, i64 m), (5, .mapl 0), (6, i64 ((n : Nat) : Int)), (12, i64 ((N * N : Nat) : Int)), (13, i64 ((i : Nat) : Int))], [(0, some (.map (mE spotA i64 M) ck))], 1, []⟩) ⟨0, ([] : List ((Int × Int) × Int × Nat)), 0, 0, (by omega), saw_0, rfl, (by simp [mget]), rfl, rfl⟩ id ⟨eD rfl rfl, eD rfl rfl, e_ rfl rfl, eD rfl rfl, eD rfl rfl, eD rfl rfl, trivial⟩ ⟨rMp (mE_data (fun _ => rfl) (fun _ => rfl) _) rfl rfl, trivial⟩ rfl rfl rfl rfl (fun _ _ => rfl) ?_
  rintro _ _ ⟨i, M, ck, n, hi0_0, hi0_1, hi0_2, hi0_3, rfl, rfl⟩
  refine W_seq rfl ?_
  refine W_reg rfl ?_
  refine Rv rfl rfl rfl (U_lss rfl rfl) rfl rfl ?_
  refine Re rfl ?_
  refine thenQ_n ?_
  refine W_seq rfl ?_
  refine WcondP rfl rfl (fun hc0 => ?_) (fun hc0 => ?_)
  · have hci : i < N * N := by omega
    have hin := in_sq hlo hci
    have hdv : i / N ≤ i := Nat.div_le_self _ _
    have hmd : i % N ≤ i := Nat.mod_le _ _
    refine W_skip rfl ?_
    refine thenQ_n ?_
    refine W_seq rfl ?_
    refine W_block rfl ?_
    refine W_seq rfl ?_
    refine W_reg rfl ?_
    refine Rv rfl rfl rfl (U_move rfl) rfl rfl ?_
    refine Rv rfl rfl rfl (U_assign rfl) rfl rfl ?_
    refine Re rfl ?_
    refine thenQ_n ?_
    refine W_seq rfl ?_
    refine Wdraw rfl (by kernel_rfl) (by kernel_rfl) ?_
    refine Dv rfl rfl rfl (U_move rfl) rfl rfl ?_
    refine Dv rfl rfl rfl (U_move rfl) rfl rfl ?_
    refine Dv rfl rfl rfl (U_quo (c := ((i / N : Nat) : Int)) rfl rfl (by omega) (wquoN (by omega))) rfl rfl ?_
    refine Dv rfl rfl rfl (U_move rfl) rfl rfl ?_
    refine Dv rfl rfl rfl (U_move rfl) rfl rfl ?_
    refine Dv rfl rfl rfl (U_rem (c := ((i % N : Nat) : Int)) rfl rfl (by omega) (tmodN _ _)) rfl rfl ?_
    refine Dv rfl rfl rfl (U_build rfl rfl) rfl rfl ?_
    refine Da rfl rfl rfl (U_alloc) rfl rfl rfl rfl ?_
    refine Dn_ rfl rfl rfl (U_storeAll rfl rfl rfl rfl rfl rfl) rfl rfl ?_
    refine Dr.nil rfl ?_
    refine thenQ_n ?_
    refine W_seq rfl ?_
    refine W_seq rfl ?_
    refine W_reg rfl ?_
    refine Rv rfl rfl rfl (U_move rfl) rfl rfl ?_
    refine Rv rfl rfl rfl (U_load2 rfl rfl rfl rfl) rfl rfl ?_
    refine Rv rfl rfl rfl (U_lookupM (k := (((i / N : Nat) : Int), ((i % N : Nat) : Int))) (L := M) spotE rfl rfl rfl rfl) rfl rfl ?_
    refine Rv rfl rfl rfl (U_gtr rfl rfl) rfl rfl ?_
    refine Re rfl ?_
    refine thenQ_n ?_
    refine WcondP rfl rfl (fun hc1 => ?_) (fun hc1 => ?_)
    · have hsw : sawB M (spo N i) := fun h => by have h2 : (mget M (((i / N : Nat) : Int), ((i % N : Nat) : Int))).getD 0 = 0 := h; omega
      refine W_exit rfl ?_
      refine thenQ_x ?_
      refine blkQ_x rfl ?_
      refine thenQ_n ?_
      refine W_reg rfl ?_
      refine Rv rfl rfl rfl (U_add rfl rfl (w64e (m := ((i + 1 : Nat) : Int)) (by omega) (by omega) (by omega))) rfl rfl ?_
      refine Rv rfl rfl rfl (U_move rfl) rfl rfl ?_
      refine Re rfl ?_
      refine thenQ_n ?_
      exact againTo (T' := [(0, i64 ((N : Nat) : Int)), (1, i64 m), (5, .mapl 0), (6, i64 ((n : Nat) : Int)), (12, i64 ((N * N : Nat) : Int)), (13, i64 (((i + 1) : Nat) : Int))]) (H' := [(0, some (.map (mE spotA i64 M) ck))]) (n := 1) (N * N - (i + 1)) ⟨i + 1, M, ck, n, (by omega), (by first | exact (saw_skip hlo hhi hm hci hi0_1 hsw).2 | exact saw_stop hlo hhi hm hci hlst hi1_1 (by rw [← hi1_0]; exact hc2)), (by first | (rw [cirK_f (saw_skip hlo hhi hm hci hi0_1 hsw).1]; exact hi0_2) | (rw [cirK_t hlst, ← hi0_2])), (by assumption), rfl, rfl⟩ (by omega) id ⟨eD rfl rfl, eD rfl rfl, e_ rfl rfl, eD rfl rfl, eD rfl rfl, eD rfl rfl, trivial⟩ ⟨rMp (mE_data (fun _ => rfl) (fun _ => rfl) _) rfl rfl, trivial⟩ rfl rfl rfl rfl (fun _ _ => rfl)
    · have hmz := hi0_3 (((i / N : Nat) : Int), ((i % N : Nat) : Int))
      have hz : (mget M (((i / N : Nat) : Int), ((i % N : Nat) : Int))).getD 0 = 0 := by omega
      have hnew : ¬ sawB M (spo N i) := fun h => h hz
      have hlst := saw_new hci hi0_1 hnew
      have hnk : n ≤ i := by rw [hi0_2]; exact cirK_le
      refine W_skip rfl ?_
      refine thenQ_n ?_
      refine W_seq rfl ?_
      refine W_reg rfl ?_
      refine Rv rfl rfl rfl (U_move rfl) rfl rfl ?_
      refine Rv rfl rfl rfl (U_add rfl rfl (w64e (m := ((n + 1 : Nat) : Int)) (by omega) (by omega) (by omega))) rfl rfl ?_
      refine Rv rfl rfl rfl (U_assign rfl) rfl rfl ?_
      refine Re rfl ?_
      refine thenQ_n ?_
      refine W_block rfl ?_
      refine LoopTo (T' := [(0, i64 ((N : Nat) : Int)), (1, i64 m), (5, .mapl 0), (6, i64 ((n + 1 : Nat) : Int)), (8, .ptr 1 0), (12, i64 ((N * N : Nat) : Int)), (13, i64 ((i : Nat) : Int))]) (H' := [(0, some (.map (mE spotA i64 M) ck)), (1, some (.cells [i64 (spo N i).1, i64 (spo N i).2] 104))]) (n := 2) rfl (fun mz_ qz_ => ∃ (k : Nat) (q : Int × Int) (M2 : Spots) (ck2 : Nat), q = itS N m k (spo N i) ∧ SawK N m M2 i k ∧ k ≤ 4 ∧ InS N q ∧ (∀ q, 0 ≤ (mget M2 q).getD 0) ∧ mz_ = 5 - k ∧ qz_ = ⟨[(0, i64 ((N : Nat) : Int)), (1, i64 m), (5, .mapl 0), (6, i64 ((n + 1 : Nat) : Int)), (8, .ptr 1 0), (12, i64 ((N * N : Nat) : Int)), (13, i64 ((i : Nat) : Int))], [(0, some (.map (mE spotA i64 M2) ck2)), (1, some (.cells [i64 q.1, i64 q.2] 104))], 2, []⟩) ⟨0, spo N i, M, ck, rfl, (saw_start hi0_1), (Nat.zero_le _), hin, hi0_3, rfl, rfl⟩ id ⟨eD rfl rfl, eD rfl rfl, e_ rfl rfl, eD rfl rfl, e_ rfl rfl, eD rfl rfl, eD rfl rfl, trivial⟩ ⟨rMp (mE_data (fun _ => rfl) (fun _ => rfl) _) rfl rfl, rD rfl rfl rfl, trivial⟩ rfl rfl rfl rfl (fun _ _ => rfl) ?_
      rintro _ _ ⟨k, q, M2, ck2, hi1_0, hi1_1, hi1_2, hi1_3, hi1_4, rfl, rfl⟩
      refine W_seq rfl ?_
      refine W_seq rfl ?_
      refine W_reg rfl ?_
      refine Rv rfl rfl rfl (U_move rfl) rfl rfl ?_
      refine Rv rfl rfl rfl (U_load2 rfl rfl rfl rfl) rfl rfl ?_
      refine Rv rfl rfl rfl (U_lookupM (k := (q.1, q.2)) (L := M2) spotE rfl rfl rfl rfl) rfl rfl ?_
      refine Rv rfl rfl rfl (U_eql rfl rfl) rfl rfl ?_
      refine Re rfl ?_
      refine thenQ_n ?_
      refine WcondP rfl rfl (fun hc2 => ?_) (fun hc2 => ?_)
      · refine W_skip rfl ?_
        refine thenQ_n ?_
        refine W_seq rfl ?_
        refine W_block rfl ?_
        refine W_reg rfl ?_
        refine Rv rfl rfl rfl (U_move rfl) rfl rfl ?_
        refine Rv rfl rfl rfl (U_load2 rfl rfl rfl rfl) rfl rfl ?_
        refine Rv rfl rfl rfl (U_move rfl) rfl rfl ?_
        refine Rn rfl rfl rfl (U_updM (k := (q.1, q.2)) (v := ((n + 1 : Nat) : Int)) (L := M2) spotE rfl rfl rfl rfl) rfl ?_
        refine Re rfl ?_
        refine blkQ_n ?_
        refine thenQ_n ?_
        refine W_reg rfl ?_
        refine Rv rfl rfl rfl (U_load2 rfl rfl rfl rfl) rfl rfl ?_
        refine Rv rfl rfl rfl (U_move rfl) rfl rfl ?_
        refine Rv rfl rfl rfl (U_move rfl) rfl rfl ?_
        refine Rv rfl rfl rfl (U_call rfl rfl (to_p ((N : Nat) : Int) m q (by first | assumption | omega) (by first | assumption | omega) (by first | assumption | (unfold InS; simp only; omega))) rfl) rfl rfl ?_
        refine Rn rfl rfl rfl (U_storeAll rfl rfl rfl rfl rfl rfl) rfl ?_
        refine Re rfl ?_
        refine thenQ_n ?_
        exact againTo (T' := [(0, i64 ((N : Nat) : Int)), (1, i64 m), (5, .mapl 0), (6, i64 ((n + 1 : Nat) : Int)), (8, .ptr 1 0), (12, i64 ((N * N : Nat) : Int)), (13, i64 ((i : Nat) : Int))]) (H' := [(0, some (.map (mE spotA i64 (mput ck2 M2 (q.1, q.2) ((n + 1 : Nat) : Int))) (mck ck2 M2 (q.1, q.2)))), (1, some (.cells [i64 (toS ((N : Nat) : Int) m q).1, i64 (toS ((N : Nat) : Int) m q).2] 104))]) (n := 2) (5 - (k + 1)) ⟨k + 1, toS ((N : Nat) : Int) m q, mput ck2 M2 (q.1, q.2) ((n + 1 : Nat) : Int), mck ck2 M2 (q.1, q.2), (by rw [itS, ← hi1_0]), (hi1_0 ▸ saw_next hlo hhi hci hi1_1 (by omega)), (saw_lt hlo hhi hm hci hi1_1 (by rw [← hi1_0]; exact fun h => h hc2)), (toS_in hi1_3), (by intro q2; rw [mget_put]; split <;> first | exact hi1_4 q2 | (simp only [Option.getD_some]; omega)), rfl, rfl⟩ (by omega) id ⟨eD rfl rfl, eD rfl rfl, e_ rfl rfl, eD rfl rfl, e_ rfl rfl, eD rfl rfl, eD rfl rfl, trivial⟩ ⟨rMp (mE_data (fun _ => rfl) (fun _ => rfl) _) rfl rfl, rD rfl rfl rfl, trivial⟩ rfl rfl rfl rfl (fun _ _ => rfl)
      · refine W_exit rfl ?_
        refine thenQ_x ?_
        refine thenQ_x ?_
        refine blkQ_x rfl ?_
        refine blkQ_n ?_
        refine thenQ_n ?_
        refine W_reg rfl ?_
        refine Rv rfl rfl rfl (U_add rfl rfl (w64e (m := ((i + 1 : Nat) : Int)) (by omega) (by omega) (by omega))) rfl rfl ?_
        refine Rv rfl rfl rfl (U_move rfl) rfl rfl ?_
        refine Re rfl ?_
        refine thenQ_n ?_
        exact againTo (T' := [(0, i64 ((N : Nat) : Int)), (1, i64 m), (5, .mapl 0), (6, i64 (((n + 1) : Nat) : Int)), (12, i64 ((N * N : Nat) : Int)), (13, i64 (((i + 1) : Nat) : Int))]) (H' := [(0, some (.map (mE spotA i64 M2) ck2))]) (n := 1) (N * N - (i + 1)) ⟨i + 1, M2, ck2, n + 1, (by omega), (by first | exact (saw_skip hlo hhi hm hci hi0_1 hsw).2 | exact saw_stop hlo hhi hm hci hlst hi1_1 (by rw [← hi1_0]; exact hc2)), (by first | (rw [cirK_f (saw_skip hlo hhi hm hci hi0_1 hsw).1]; exact hi0_2) | (rw [cirK_t hlst, ← hi0_2])), (by assumption), rfl, rfl⟩ (by omega) id ⟨eD rfl rfl, eD rfl rfl, e_ rfl rfl, eD rfl rfl, eD rfl rfl, eD rfl rfl, trivial⟩ ⟨rMp (mE_data (fun _ => rfl) (fun _ => rfl) _) rfl rfl, trivial⟩ rfl rfl rfl rfl (fun _ _ => rfl)
  · refine W_exit rfl ?_
    refine thenQ_x ?_
    refine thenQ_x ?_
    refine blkQ_x rfl ?_
    refine thenQ_n ?_
    refine W_seq rfl ?_
    refine W_reg rfl ?_
    refine Rv rfl rfl rfl (U_move rfl) rfl rfl ?_
    refine Rv rfl rfl rfl (U_assign rfl) rfl rfl ?_
    refine Re rfl ?_
    refine thenQ_n ?_
    refine W_ret rfl ?_
    exact retL (rlT rfl rl0) (by first | rfl | (simp only [packA]; rw [hi0_2, show i = N * N by omega]; rfl; first | done | rfl)) rfl
theorem lst_min {N : Nat} {m : Int} (h1 : 1 ≤ N) (h2 : N ≤ 8) (hm : 0 ≤ m ∧ m < 8) {i k : Nat} (hi : i < N * N) (hk : 1 ≤ k ∧ k ≤ 4) (h : itP N m k i = i) {l : Nat} (hl : ∀ a, a < k → l ≤ itP N m a i) (hl2 : ∃ a, a < k ∧ itP N m a i = l) : lst N m i = l := by
  obtain ⟨a, ha, e⟩ := hl2
  have hcl : ∀ b, ∃ a, a < k ∧ itP N m a i = itP N m b i := by
    intro b
    induction b with
    | zero => exact ⟨0, by omega, rfl⟩
    | succ b ih =>
      obtain ⟨c, hc, e2⟩ := ih
      by_cases h3 : c + 1 < k
      · exact ⟨c + 1, h3, by rw [← itP_add h1 hi c 1, e2, itP_add h1 hi b 1]⟩
      · have : c + 1 = k := by omega
        exact ⟨0, by omega, (itP0 i).trans (h.symm.trans (by rw [← this, ← itP_add h1 hi c 1, e2, itP_add h1 hi b 1]))⟩
  have hle : ∀ b, l ≤ itP N m b i := fun b => by obtain ⟨c, hc, e2⟩ := hcl b; rw [← e2]; exact hl c hc
  have g0 := hle 0; have g1 := hle 1; have g2 := hle 2; have g3 := hle 3
  rw [itP0] at g0
  have hlt := lst_le (N := N) (m := m) i
  have hmem := lst_mem (N := N) (m := m) i
  have hge : l ≤ lst N m i := by omega
  have hle2 : lst N m i ≤ l := by
    rw [← e]
    have : a = 0 ∨ a = 1 ∨ a = 2 ∨ a = 3 := by omega
    rcases this with rfl | rfl | rfl | rfl
    · rw [itP0]; exact hlt.1
    · exact hlt.2.1
    · exact hlt.2.2.1
    · exact hlt.2.2.2
  omega
theorem circlesR_p (N : Nat) (hlo : 1 ≤ N) (hhi : N ≤ 8) (m : Int) (hm : 0 ≤ m ∧ m < 8) : Pure Try.prog 70 [i64 (N : Nat), i64 m] (i64 (cirQ N m : Nat)) := by
  have hsq : N * N ≤ 64 := Nat.mul_le_mul hhi hhi
  have hsqi : ((N * N : Nat) : Int) = (N : Int) * N := by exact_mod_cast rfl
  refine pure_of_body Try.func70 (c := body Try.f70) rfl (by simp [Try.ntmps70]) fun w0 Φ0 => ?_
  refine W_seq rfl ?_
  refine W_reg rfl ?_
  refine Rv rfl rfl rfl (U_assign rfl) rfl rfl ?_
  refine Re rfl ?_
  refine thenQ_n ?_
  refine W_seq rfl ?_
  refine W_reg rfl ?_
  refine Rv rfl rfl rfl (U_assign rfl) rfl rfl ?_
  refine Re rfl ?_
  refine thenQ_n ?_
  refine W_seq rfl ?_
  refine W_seq rfl ?_
  refine W_reg rfl ?_
  refine Rv rfl rfl rfl (U_assign rfl) rfl rfl ?_
  refine Re rfl ?_
  refine thenQ_n ?_
  refine W_block rfl ?_
  refine LoopTo (T' := [(0, i64 ((N : Nat) : Int)), (1, i64 m), (5, i64 ((0 : Nat) : Int)), (6, i64 ((0 : Nat) : Int))]) (H' := []) (n := 0) rfl (fun mz_ qz_ => ∃ (i : Nat) (n : Nat), i ≤ N * N ∧ n = cirK N m i ∧ mz_ = N * N - i ∧ qz_ = ⟨[(0, i64 ((N : Nat) : Int)), (1, i64 m), (5, i64 ((n : Nat) : Int)), (6, i64 ((i : Nat) : Int))], [], 0, []⟩) ⟨0, 0, (by omega), rfl, rfl, rfl⟩ id ⟨eD rfl rfl, eD rfl rfl, eD rfl rfl, eD rfl rfl, trivial⟩ trivial rfl rfl rfl rfl (fun _ _ => rfl) ?_
  rintro _ _ ⟨i, n, hi0_0, hi0_1, rfl, rfl⟩
  refine W_seq rfl ?_
  refine W_seq rfl ?_
  refine W_reg rfl ?_
  refine Rv rfl rfl rfl (U_move rfl) rfl rfl ?_
  refine Rv rfl rfl rfl (U_move rfl) rfl rfl ?_
  refine Rv rfl rfl rfl (U_move rfl) rfl rfl ?_
  refine Rv rfl rfl rfl (U_mul rfl rfl (w64e (m := ((N * N : Nat) : Int)) (by omega) (by omega) (by omega))) rfl rfl ?_
  refine Rv rfl rfl rfl (U_lss rfl rfl) rfl rfl ?_
  refine Re rfl ?_
  refine thenQ_n ?_
  refine WcondP rfl rfl (fun hc0 => ?_) (fun hc0 => ?_)
  · have hci : i < N * N := by omega
    have hin := in_sq hlo hci
    have hdv : i / N ≤ i := Nat.div_le_self _ _
    have hmd : i % N ≤ i := Nat.mod_le _ _
    have hnk : n ≤ i := by rw [hi0_1]; exact cirK_le
    refine W_skip rfl ?_
    refine thenQ_n ?_
    refine W_seq rfl ?_
    refine W_block rfl ?_
    refine W_seq rfl ?_
    refine W_reg rfl ?_
    refine Rv rfl rfl rfl (U_move rfl) rfl rfl ?_
    refine Rv rfl rfl rfl (U_assign rfl) rfl rfl ?_
    refine Re rfl ?_
    refine thenQ_n ?_
    refine W_seq rfl ?_
    refine Wdraw rfl (by kernel_rfl) (by kernel_rfl) ?_
    refine Dv rfl rfl rfl (U_move rfl) rfl rfl ?_
    refine Dv rfl rfl rfl (U_move rfl) rfl rfl ?_
    refine Dv rfl rfl rfl (U_move rfl) rfl rfl ?_
    refine Dv rfl rfl rfl (U_move rfl) rfl rfl ?_
    refine Dv rfl rfl rfl (U_quo (c := ((i / N : Nat) : Int)) rfl rfl (by omega) (wquoN (by omega))) rfl rfl ?_
    refine Dv rfl rfl rfl (U_move rfl) rfl rfl ?_
    refine Dv rfl rfl rfl (U_move rfl) rfl rfl ?_
    refine Dv rfl rfl rfl (U_rem (c := ((i % N : Nat) : Int)) rfl rfl (by omega) (tmodN _ _)) rfl rfl ?_
    refine Dv rfl rfl rfl (U_call rfl rfl (toR_p ((N : Nat) : Int) m ((i / N : Nat) : Int) ((i % N : Nat) : Int) (by omega) (by first | assumption | omega) (by first | assumption | exact toS_in (by assumption) | (unfold InS; simp only; omega))) rfl) rfl rfl ?_
    refine Dv rfl rfl rfl (U_move rfl) rfl rfl ?_
    refine Dv rfl rfl rfl (U_extract rfl rfl) rfl rfl ?_
    refine Dv rfl rfl rfl (U_extract rfl rfl) rfl rfl ?_
    refine Dv rfl rfl rfl (U_assign rfl) rfl rfl ?_
    refine Dv rfl rfl rfl (U_assign rfl) rfl rfl ?_
    refine Dr.nil rfl ?_
    refine thenQ_n ?_
    refine W_seq rfl ?_
    refine W_block rfl ?_
    refine LoopTo (T' := [(0, i64 ((N : Nat) : Int)), (1, i64 m), (5, i64 ((n : Nat) : Int)), (6, i64 ((i : Nat) : Int)), (7, i64 ((i : Nat) : Int)), (8, i64 (toS N m (spo N i)).1), (9, i64 (toS N m (spo N i)).2)]) (H' := []) (n := 0) rfl (fun mz_ qz_ => ∃ (k : Nat) (q : Int × Int) (l : Nat), q = itS N m k (spo N i) ∧ (1 ≤ k ∧ k ≤ 4) ∧ ((∀ a, a < k → l ≤ itP N m a i) ∧ ∃ a, a < k ∧ itP N m a i = l) ∧ InS N q ∧ mz_ = 5 - k ∧ qz_ = ⟨[(0, i64 ((N : Nat) : Int)), (1, i64 m), (5, i64 ((n : Nat) : Int)), (6, i64 ((i : Nat) : Int)), (7, i64 ((l : Nat) : Int)), (8, i64 q.1), (9, i64 q.2)], [], 0, []⟩) ⟨1, toS N m (spo N i), i, rfl, (by omega), (⟨fun a ha => by obtain rfl : a = 0 := (by omega); rw [itP0]; exact Nat.le_refl _, 0, by omega, itP0 i⟩), (toS_in hin), rfl, rfl⟩ id ⟨eD rfl rfl, eD rfl rfl, eD rfl rfl, eD rfl rfl, eD rfl rfl, eD rfl rfl, eD rfl rfl, trivial⟩ trivial rfl rfl rfl rfl (fun _ _ => rfl) ?_
    rintro _ _ ⟨k, q, l, hi1_0, hi1_1, hi1_2, hi1_3, rfl, rfl⟩
    have hpb := pos_bd hhi hi1_3
    have hnl := num_lt hhi hi1_3
    refine W_seq rfl ?_
    refine W_seq rfl ?_
    refine W_reg rfl ?_
    refine Rv rfl rfl rfl (U_move rfl) rfl rfl ?_
    refine Rv rfl rfl rfl (U_move rfl) rfl rfl ?_
    refine Rv rfl rfl rfl (U_mul rfl rfl (w64 (by omega) (by omega))) rfl rfl ?_
    refine Rv rfl rfl rfl (U_move rfl) rfl rfl ?_
    refine Rv rfl rfl rfl (U_add rfl rfl (w64e (m := ((numS N q : Nat) : Int)) (num_cast hhi hi1_3) (by omega) (by omega))) rfl rfl ?_
    refine Rv rfl rfl rfl (U_move rfl) rfl rfl ?_
    refine Rv rfl rfl rfl (U_neq rfl rfl) rfl rfl ?_
    refine Re rfl ?_
    refine thenQ_n ?_
    refine WcondP rfl rfl (fun hc1 => ?_) (fun hc1 => ?_)
    · have hnum : numS N q = itP N m k i := by rw [hi1_0]; rfl
      have hk4 : 1 ≤ k + 1 ∧ k + 1 ≤ 4 := by refine ⟨by omega, ?_⟩; rcases Nat.lt_or_ge k 4 with h | h; exact h; exfalso; obtain rfl : k = 4 := (by omega); have := itP4 (m := m) hlo hm hci 0; simp only [Nat.add_zero] at this; rw [itP0] at this; omega
      have hmin : (∀ a, a < k + 1 → min l (numS N q) ≤ itP N m a i) ∧ ∃ a, a < k + 1 ∧ itP N m a i = min l (numS N q) := by refine ⟨fun a ha => ?_, ?_⟩; by_cases e : a = k; subst e; omega; have := hi1_2.1 a (by omega); omega; obtain ⟨a, ha, e⟩ := hi1_2.2; by_cases h : l ≤ numS N q; exact ⟨a, by omega, by omega⟩; exact ⟨k, by omega, by omega⟩
      refine W_skip rfl ?_
      refine thenQ_n ?_
      refine W_block rfl ?_
      refine W_seq rfl ?_
      refine W_reg rfl ?_
      refine Rv rfl rfl rfl (U_move rfl) rfl rfl ?_
      refine Rv rfl rfl rfl (U_move rfl) rfl rfl ?_
      refine Rv rfl rfl rfl (U_move rfl) rfl rfl ?_
      refine Rv rfl rfl rfl (U_mul rfl rfl (w64 (by omega) (by omega))) rfl rfl ?_
      refine Rv rfl rfl rfl (U_move rfl) rfl rfl ?_
      refine Rv rfl rfl rfl (U_add rfl rfl (w64e (m := ((numS N q : Nat) : Int)) (num_cast hhi hi1_3) (by omega) (by omega))) rfl rfl ?_
      refine Rv rfl rfl rfl (U_min (m := (((min l (numS N q)) : Nat) : Int)) rfl rfl (by omega)) rfl rfl ?_
      refine Rv rfl rfl rfl (U_assign rfl) rfl rfl ?_
      refine Re rfl ?_
      refine thenQ_n ?_
      refine W_reg rfl ?_
      refine Rv rfl rfl rfl (U_move rfl) rfl rfl ?_
      refine Rv rfl rfl rfl (U_move rfl) rfl rfl ?_
      refine Rv rfl rfl rfl (U_move rfl) rfl rfl ?_
      refine Rv rfl rfl rfl (U_move rfl) rfl rfl ?_
      refine Rv rfl rfl rfl (U_call rfl rfl (toR_p ((N : Nat) : Int) m q.1 q.2 (by omega) (by first | assumption | omega) (by first | assumption | exact toS_in (by assumption) | (unfold InS; simp only; omega))) rfl) rfl rfl ?_
      refine Rv rfl rfl rfl (U_move rfl) rfl rfl ?_
      refine Rv rfl rfl rfl (U_extract rfl rfl) rfl rfl ?_
      refine Rv rfl rfl rfl (U_extract rfl rfl) rfl rfl ?_
      refine Rv rfl rfl rfl (U_assign rfl) rfl rfl ?_
      refine Rv rfl rfl rfl (U_assign rfl) rfl rfl ?_
      refine Re rfl ?_
      refine blkQ_n ?_
      refine thenQ_n ?_
      exact againTo (T' := [(0, i64 ((N : Nat) : Int)), (1, i64 m), (5, i64 ((n : Nat) : Int)), (6, i64 ((i : Nat) : Int)), (7, i64 (((min l (numS N q)) : Nat) : Int)), (8, i64 (toS N m q).1), (9, i64 (toS N m q).2)]) (H' := []) (n := 0) (5 - (k + 1)) ⟨k + 1, toS N m q, min l (numS N q), (by rw [itS, ← hi1_0]), hk4, hmin, (toS_in hi1_3), rfl, rfl⟩ (by omega) id ⟨eD rfl rfl, eD rfl rfl, eD rfl rfl, eD rfl rfl, eD rfl rfl, eD rfl rfl, eD rfl rfl, trivial⟩ trivial rfl rfl rfl rfl (fun _ _ => rfl)
    · rw [Decidable.not_not] at hc1
      have hnum : numS N q = itP N m k i := by rw [hi1_0]; rfl
      have hlst := lst_min hlo hhi hm hci hi1_1 (by omega) hi1_2.1 hi1_2.2
      refine W_exit rfl ?_
      refine thenQ_x ?_
      refine thenQ_x ?_
      refine blkQ_x rfl ?_
      refine thenQ_n ?_
      refine W_seq rfl ?_
      refine W_reg rfl ?_
      refine Rv rfl rfl rfl (U_move rfl) rfl rfl ?_
      refine Rv rfl rfl rfl (U_move rfl) rfl rfl ?_
      refine Rv rfl rfl rfl (U_eql rfl rfl) rfl rfl ?_
      refine Re rfl ?_
      refine thenQ_n ?_
      refine WcondP rfl rfl (fun hc2 => ?_) (fun hc2 => ?_)
      · refine W_reg rfl ?_
        refine Rv rfl rfl rfl (U_move rfl) rfl rfl ?_
        refine Rv rfl rfl rfl (U_add rfl rfl (w64e (m := ((n + 1 : Nat) : Int)) (by omega) (by omega) (by omega))) rfl rfl ?_
        refine Rv rfl rfl rfl (U_assign rfl) rfl rfl ?_
        refine Re rfl ?_
        refine blkQ_n ?_
        refine thenQ_n ?_
        refine W_reg rfl ?_
        refine Rv rfl rfl rfl (U_move rfl) rfl rfl ?_
        refine Rv rfl rfl rfl (U_add rfl rfl (w64e (m := ((i + 1 : Nat) : Int)) (by omega) (by omega) (by omega))) rfl rfl ?_
        refine Rv rfl rfl rfl (U_assign rfl) rfl rfl ?_
        refine Re rfl ?_
        refine thenQ_n ?_
        exact againTo (T' := [(0, i64 ((N : Nat) : Int)), (1, i64 m), (5, i64 (((n + 1) : Nat) : Int)), (6, i64 (((i + 1) : Nat) : Int))]) (H' := []) (n := 0) (N * N - (i + 1)) ⟨i + 1, n + 1, (by omega), (by first | (rw [cirK_t (by omega), ← hi0_1]; done) | (rw [cirK_f (by omega)]; exact hi0_1)), rfl, rfl⟩ (by omega) id ⟨eD rfl rfl, eD rfl rfl, eD rfl rfl, eD rfl rfl, trivial⟩ trivial rfl rfl rfl rfl (fun _ _ => rfl)
      · refine W_skip rfl ?_
        refine blkQ_n ?_
        refine thenQ_n ?_
        refine W_reg rfl ?_
        refine Rv rfl rfl rfl (U_move rfl) rfl rfl ?_
        refine Rv rfl rfl rfl (U_add rfl rfl (w64e (m := ((i + 1 : Nat) : Int)) (by omega) (by omega) (by omega))) rfl rfl ?_
        refine Rv rfl rfl rfl (U_assign rfl) rfl rfl ?_
        refine Re rfl ?_
        refine thenQ_n ?_
        exact againTo (T' := [(0, i64 ((N : Nat) : Int)), (1, i64 m), (5, i64 ((n : Nat) : Int)), (6, i64 (((i + 1) : Nat) : Int))]) (H' := []) (n := 0) (N * N - (i + 1)) ⟨i + 1, n, (by omega), (by first | (rw [cirK_t (by omega), ← hi0_1]; done) | (rw [cirK_f (by omega)]; exact hi0_1)), rfl, rfl⟩ (by omega) id ⟨eD rfl rfl, eD rfl rfl, eD rfl rfl, eD rfl rfl, trivial⟩ trivial rfl rfl rfl rfl (fun _ _ => rfl)
  · refine W_exit rfl ?_
    refine thenQ_x ?_
    refine thenQ_x ?_
    refine blkQ_x rfl ?_
    refine thenQ_n ?_
    refine W_seq rfl ?_
    refine W_reg rfl ?_
    refine Rv rfl rfl rfl (U_move rfl) rfl rfl ?_
    refine Rv rfl rfl rfl (U_assign rfl) rfl rfl ?_
    refine Re rfl ?_
    refine thenQ_n ?_
    refine W_ret rfl ?_
    exact retL (rlT rfl rl0) (by first | rfl | (simp only [packA]; rw [hi0_1, show i = N * N by omega]; rfl; first | done | rfl)) rfl
end Go.Proofs.Ythoodfiacfmhgaa
end

section
/- Contracts of package plate: plans. -/
namespace Go.Proofs.Ythoodfiacfmhgaa
set_option maxRecDepth 20000
open Go.AE
/-- What is left to do behind a motion. -/
def rst (a mo : Int) : Int := aft (invM a) mo
theorem rst_in {a mo : Int} (ha : 0 ≤ a ∧ a < 8) (hm : 0 ≤ mo ∧ mo < 8) : 0 ≤ rst a mo ∧ rst a mo < 8 := after_in (inv_in ha) hm
/-- The plan with the fewest moves, from a motion on. -/
noncomputable def planQ (ks : List Int) (h : List Nat) (mo : Int) : Nat → Int → List Int
  | 0, _ => []
  | l + 1, a => match ks.find? fun k => decide (geN h (rst (aft a k) mo).toNat = l) with
    | none => []
    | some k => k :: planQ ks h mo l (aft a k)
theorem planQ_some {ks : List Int} {h : List Nat} {mo : Int} {l i : Nat} {a : Int} (hi : i < ks.length) (hb : ∀ j (hj : j < ks.length), j < i → ¬ geN h (rst (aft a ks[j]) mo).toNat = l) (ht : geN h (rst (aft a ks[i]) mo).toNat = l) : planQ ks h mo (l + 1) a = ks[i] :: planQ ks h mo l (aft a ks[i]) := by
  have e : (ks.find? fun k => decide (geN h (rst (aft a k) mo).toNat = l)) = some ks[i] := by
    rw [List.find?_eq_some_iff_getElem]
    exact ⟨by simpa using ht, i, hi, rfl, fun j hj => by simpa using hb j (by omega) hj⟩
  rw [planQ, e]
theorem planQ_none {ks : List Int} {h : List Nat} {mo : Int} {l : Nat} {a : Int} (hb : ∀ j (hj : j < ks.length), ¬ geN h (rst (aft a ks[j]) mo).toNat = l) : planQ ks h mo (l + 1) a = [] := by
  have e : (ks.find? fun k => decide (geN h (rst (aft a k) mo).toNat = l)) = none := by
    rw [List.find?_eq_none]; intro x hx; obtain ⟨j, hj, rfl⟩ := List.getElem_of_mem hx; simpa using hb j hj
  rw [planQ, e]
theorem planQ_len {ks : List Int} {h : List Nat} {mo : Int} : ∀ (l : Nat) (a : Int), (planQ ks h mo l a).length ≤ l
  | 0, _ => Nat.le_refl _
  | l + 1, a => by
    unfold planQ
    split
    · simp
    · rename_i k _
      have := planQ_len (ks := ks) (h := h) (mo := mo) l (aft a k)
      simp only [List.length_cons]; omega
theorem plan_p (ks : List Int) (c : Option Nat) (hl : ks.length ≤ 1000000) (hk : ∀ x ∈ ks, 0 ≤ x ∧ x < 8) (h : List Nat) (hh : HOk h) (mo : Int) (hmo : 0 ≤ mo ∧ mo < 8) : Pure Try.prog 78 [intsA ks c, .agg (h.map n64), i64 mo] (intsA (planQ ks h mo (geN h mo.toNat) 0) none) := by
  have h8 := hh.len
  have hml := hh.get (j := mo.toNat) (by omega)
  refine pure_of_body Try.func78 (c := body Try.f78) rfl (by simp [Try.ntmps78]) fun w0 Φ0 => ?_
  refine W_seq rfl ?_
  refine W_reg rfl ?_
  refine Rv rfl rfl rfl (U_boxF rfl rfl (mapD (fun _ => rfl) _)) rfl rfl ?_
  refine Rv rfl rfl rfl (U_assign rfl) rfl rfl ?_
  refine Re rfl ?_
  refine thenQ_n ?_
  refine W_scope rfl ?_
  refine W_seq rfl ?_
  refine W_reg rfl ?_
  refine Rv rfl rfl rfl (U_assign rfl) rfl rfl ?_
  refine Re rfl ?_
  refine thenQ_n ?_
  refine W_seq rfl ?_
  refine W_reg rfl ?_
  refine Rv rfl rfl rfl (U_assign rfl) rfl rfl ?_
  refine Re rfl ?_
  refine thenQ_n ?_
  refine W_seq rfl ?_
  refine W_label rfl ?_
  refine thenQ_n ?_
  refine W_seq rfl ?_
  refine W_seq rfl ?_
  refine W_reg rfl ?_
  refine Rv rfl rfl rfl (U_move rfl) rfl rfl ?_
  have hx1 : (mo).toNat < h.length := by omega
  refine Rv rfl rfl rfl (U_indexAR (j := (mo).toNat) rfl rfl (by omega) (by omega)) rfl rfl ?_
  refine Rv rfl rfl rfl (U_load1 rfl rfl (getM0 hx1)) rfl rfl ?_
  refine Rv rfl rfl rfl (U_assign rfl) rfl rfl ?_
  refine Re rfl ?_
  refine thenQ_n ?_
  refine W_block rfl ?_
  refine LoopTo (T' := [(0, .ros (ks.map i64) ks.length c), (2, i64 mo), (4, .rop (h.map n64) 0), (7, .out 0 [].length 1), (8, i64 0), (9, i64 ((h[mo.toNat] : Nat) : Int))]) (H' := [(0, outB ([].map i64) 3 [].length)]) (n := 1) rfl (fun mz_ qz_ => ∃ (l : Nat) (a : Int) (out : List Int), planQ ks h mo (geN h mo.toNat) 0 = out ++ planQ ks h mo l a ∧ (0 ≤ a ∧ a < 8) ∧ l ≤ 20 ∧ mz_ = 0 + l ∧ qz_ = ⟨[(0, .ros (ks.map i64) ks.length c), (2, i64 mo), (4, .rop (h.map n64) 0), (7, .out 0 out.length 1), (8, i64 a), (9, i64 ((l : Nat) : Int))], [(0, outB (out.map i64) 3 out.length)], 1, []⟩) ⟨h[mo.toNat], 0, [], (by rw [geN_get (by omega)]; rfl), (by omega), hml, rfl, rfl⟩ id ⟨eD rfl rfl, eD rfl rfl, eD rfl rfl, eW rfl le_nils_out rfl, eD rfl rfl, eD rfl rfl, trivial⟩ ⟨rO0 rfl, trivial⟩ rfl rfl rfl rfl (fun _ _ => rfl) ?_
  rintro _ _ ⟨l, a, out, hi0_0, hi0_1, hi0_2, rfl, rfl⟩
  have hol : out.length ≤ 20 := by have h1 := congrArg List.length hi0_0; rw [List.length_append] at h1; have h2 := planQ_len (ks := ks) (h := h) (mo := mo) (geN h mo.toNat) 0; have h3 : geN h mo.toNat ≤ 20 := (by rw [geN_get (by omega)]; exact hml); omega
  refine W_seq rfl ?_
  refine W_seq rfl ?_
  refine W_reg rfl ?_
  refine Rv rfl rfl rfl (U_move rfl) rfl rfl ?_
  refine Rv rfl rfl rfl (U_gtr rfl rfl) rfl rfl ?_
  refine Re rfl ?_
  refine thenQ_n ?_
  refine WcondP rfl rfl (fun hc0 => ?_) (fun hc0 => ?_)
  · refine W_skip rfl ?_
    refine thenQ_n ?_
    refine W_seq rfl ?_
    refine W_block rfl ?_
    refine W_seq rfl ?_
    refine W_seq rfl ?_
    refine W_reg rfl ?_
    refine Rv rfl rfl rfl (U_move rfl) rfl rfl ?_
    refine Rv rfl rfl rfl (U_lenOf rfl len_ros) rfl rfl ?_
    refine Rv rfl rfl rfl (U_move rfl) rfl rfl ?_
    refine Re rfl ?_
    refine thenQ_n ?_
    refine W_block rfl ?_
    refine LoopTo (T' := [(0, .ros (ks.map i64) ks.length c), (2, i64 mo), (4, .rop (h.map n64) 0), (7, .out 0 out.length 1), (8, i64 a), (9, i64 ((l : Nat) : Int)), (21, .ros (ks.map i64) ks.length c), (22, i64 ((ks.length : Nat) : Int)), (23, i64 ((0 : Nat) : Int))]) (H' := [(0, outB (out.map i64) 3 out.length)]) (n := 1) rfl (fun mz_ qz_ => ∃ (i : Nat), i ≤ ks.length ∧ (∀ j (hj : j < ks.length), j < i → ¬ geN h (rst (aft a ks[j]) mo).toNat = l - 1) ∧ mz_ = ks.length - i ∧ qz_ = ⟨[(0, .ros (ks.map i64) ks.length c), (2, i64 mo), (4, .rop (h.map n64) 0), (7, .out 0 out.length 1), (8, i64 a), (9, i64 ((l : Nat) : Int)), (21, .ros (ks.map i64) ks.length c), (22, i64 ((ks.length : Nat) : Int)), (23, i64 ((i : Nat) : Int))], [(0, outB (out.map i64) 3 out.length)], 1, []⟩) ⟨0, (by omega), (fun j hj h => absurd h (Nat.not_lt_zero _)), rfl, rfl⟩ id ⟨eD rfl rfl, eD rfl rfl, eD rfl rfl, e_ rfl rfl, eD rfl rfl, eD rfl rfl, eD rfl rfl, eD rfl rfl, eD rfl rfl, trivial⟩ ⟨rO (mapD (fun _ => rfl) _) rfl rfl, trivial⟩ rfl rfl rfl rfl (fun _ _ => rfl) ?_
    rintro _ _ ⟨i, hi1_0, hi1_1, rfl, rfl⟩
    refine W_seq rfl ?_
    refine W_reg rfl ?_
    refine Rv rfl rfl rfl (U_lss rfl rfl) rfl rfl ?_
    refine Re rfl ?_
    refine thenQ_n ?_
    refine W_seq rfl ?_
    refine WcondP rfl rfl (fun hc1 => ?_) (fun hc1 => ?_)
    · have hci : i < ks.length := by omega
      have hkk := hk _ (List.getElem_mem hci)
      have hd1 := after_in (a := a) hi0_1 hkk
      have hr := rst_in hd1 hmo
      have hr2 : (0 ≤ aft (invM (aft a ks[i])) mo ∧ aft (invM (aft a ks[i])) mo < 8) := hr
      have hv1 := inv_in hd1
      refine W_skip rfl ?_
      refine thenQ_n ?_
      refine W_seq rfl ?_
      refine W_block rfl ?_
      refine W_seq rfl ?_
      refine W_reg rfl ?_
      have hx2 : i < ks.length := by omega
      refine Rv rfl rfl rfl (U_indexR (j := i) rfl rfl rfl hx2) rfl rfl ?_
      refine Rv rfl rfl rfl (U_load1 rfl rfl (getM hx2)) rfl rfl ?_
      refine Rv rfl rfl rfl (U_assign rfl) rfl rfl ?_
      refine Re rfl ?_
      refine thenQ_n ?_
      refine W_seq rfl ?_
      refine W_reg rfl ?_
      refine Rv rfl rfl rfl (U_move rfl) rfl rfl ?_
      refine Rv rfl rfl rfl (U_move rfl) rfl rfl ?_
      refine Rv rfl rfl rfl (U_call rfl rfl (after_p a ks[i] (by first | assumption | omega) (by first | assumption | omega)) rfl) rfl rfl ?_
      refine Rv rfl rfl rfl (U_assign rfl) rfl rfl ?_
      refine Re rfl ?_
      refine thenQ_n ?_
      refine W_seq rfl ?_
      refine W_reg rfl ?_
      refine Rv rfl rfl rfl (U_move rfl) rfl rfl ?_
      refine Rv rfl rfl rfl (U_call rfl rfl (inverse_p (aft a ks[i]) (by first | assumption | omega)) rfl) rfl rfl ?_
      refine Rv rfl rfl rfl (U_move rfl) rfl rfl ?_
      refine Rv rfl rfl rfl (U_call rfl rfl (after_p (invM (aft a ks[i])) mo (by first | assumption | omega) (by first | assumption | omega)) rfl) rfl rfl ?_
      refine Rv rfl rfl rfl (U_assign rfl) rfl rfl ?_
      refine Re rfl ?_
      refine thenQ_n ?_
      refine W_seq rfl ?_
      refine W_reg rfl ?_
      refine Rv rfl rfl rfl (U_move rfl) rfl rfl ?_
      have hx3 : (aft (invM (aft a ks[i])) mo).toNat < h.length := by omega
      refine Rv rfl rfl rfl (U_indexAR (j := (aft (invM (aft a ks[i])) mo).toNat) rfl rfl (by omega) (by omega)) rfl rfl ?_
      refine Rv rfl rfl rfl (U_load1 rfl rfl (getM0 hx3)) rfl rfl ?_
      refine Rv rfl rfl rfl (U_move rfl) rfl rfl ?_
      refine Rv rfl rfl rfl (U_sub rfl rfl (w64e (m := ((l - 1 : Nat) : Int)) (by omega) (by omega) (by omega))) rfl rfl ?_
      refine Rv rfl rfl rfl (U_eql rfl rfl) rfl rfl ?_
      refine Re rfl ?_
      refine thenQ_n ?_
      refine WcondP rfl rfl (fun hc2 => ?_) (fun hc2 => ?_)
      · have hyes : geN h (rst (aft a ks[i]) mo).toNat = l - 1 := by rw [geN_get (by show (aft (invM (aft a ks[i])) mo).toNat < _; omega)]; have h1 := hc2; simp only [rst]; omega
        have hpl : planQ ks h mo l a = ks[i] :: planQ ks h mo (l - 1) (aft a ks[i]) := by have h1 := planQ_some hci hi1_1 hyes; rw [show l - 1 + 1 = l by omega] at h1; exact h1
        refine W_seq rfl ?_
        refine W_reg rfl ?_
        refine Rv rfl rfl rfl (U_move rfl) rfl rfl ?_
        refine Rv rfl rfl rfl (U_move rfl) rfl rfl ?_
        refine Rv rfl rfl rfl (U_lenOf rfl len_out) rfl rfl ?_
        refine Rv rfl rfl rfl (U_move rfl) rfl rfl ?_
        refine Rv rfl rfl rfl (U_lenOf rfl len_out) rfl rfl ?_
        refine Rv rfl rfl rfl (U_sliceO3 rfl rfl rfl (by simp) (by simp)) rfl rfl ?_
        refine Rv rfl rfl rfl (U_move rfl) rfl rfl ?_
        refine Rv rfl rfl rfl (U_buildSliceF (by rfl) (by decide) rfl rfl rfl) rfl rfl ?_
        refine Ra rfl rfl rfl (U_appO (b := 0) (m := 0) (cs' := (out ++ [ks[i]]).map i64) (n' := (out ++ [ks[i]]).length) rfl rfl (by simp) rfl (map_len1 _) rfl rfl (by omega) (appM _ _) (len1 _ _)) rfl rfl rfl ?_
        refine Rv rfl rfl rfl (U_assign rfl) rfl rfl ?_
        refine Re rfl ?_
        refine thenQ_n ?_
        refine W_seq rfl ?_
        refine W_reg rfl ?_
        refine Rv rfl rfl rfl (U_move rfl) rfl rfl ?_
        refine Rv rfl rfl rfl (U_assign rfl) rfl rfl ?_
        refine Re rfl ?_
        refine thenQ_n ?_
        refine W_exit rfl ?_
        refine blkQ_y rfl ?_
        refine thenQ_x ?_
        refine thenQ_x ?_
        refine blkQ_y rfl ?_
        refine thenQ_x ?_
        refine blkQ_x rfl ?_
        refine thenQ_n ?_
        refine W_reg rfl ?_
        refine Rv rfl rfl rfl (U_move rfl) rfl rfl ?_
        refine Rv rfl rfl rfl (U_sub rfl rfl (w64e (m := ((l - 1 : Nat) : Int)) (by omega) (by omega) (by omega))) rfl rfl ?_
        refine Rv rfl rfl rfl (U_assign rfl) rfl rfl ?_
        refine Re rfl ?_
        refine thenQ_n ?_
        exact againTo (T' := [(0, .ros (ks.map i64) ks.length c), (2, i64 mo), (4, .rop (h.map n64) 0), (7, .out 0 (out ++ [ks[i]]).length 1), (8, i64 (aft a ks[i])), (9, i64 (((l - 1) : Nat) : Int))]) (H' := [(0, outB ((out ++ [ks[i]]).map i64) 3 (out ++ [ks[i]]).length)]) (n := 1) (0 + (l - 1)) ⟨l - 1, aft a ks[i], out ++ [ks[i]], (by rw [hi0_0, hpl]; simp), hd1, (by omega), rfl, rfl⟩ (by omega) (mapN [1]) ⟨eD rfl rfl, eD rfl rfl, eD rfl rfl, e_ rfl rfl, eD rfl rfl, eD rfl rfl, trivial⟩ ⟨rO (mapD (fun _ => rfl) _) rfl rfl, trivial⟩ rfl rfl rfl rfl (fun _ h => absurd h (Nat.not_lt_zero _))
      · have hno : ¬ geN h (rst (aft a ks[i]) mo).toNat = l - 1 := by rw [geN_get (by show (aft (invM (aft a ks[i])) mo).toNat < _; omega)]; have h1 := hc2; simp only [rst]; omega
        refine W_skip rfl ?_
        refine blkQ_n ?_
        refine thenQ_n ?_
        refine W_reg rfl ?_
        refine Rv rfl rfl rfl (U_add rfl rfl (w64e (m := ((i + 1 : Nat) : Int)) (by omega) (by omega) (by omega))) rfl rfl ?_
        refine Rv rfl rfl rfl (U_move rfl) rfl rfl ?_
        refine Re rfl ?_
        refine thenQ_n ?_
        exact againTo (T' := [(0, .ros (ks.map i64) ks.length c), (2, i64 mo), (4, .rop (h.map n64) 0), (7, .out 0 out.length 1), (8, i64 a), (9, i64 ((l : Nat) : Int)), (21, .ros (ks.map i64) ks.length c), (22, i64 ((ks.length : Nat) : Int)), (23, i64 (((i + 1) : Nat) : Int))]) (H' := [(0, outB (out.map i64) 3 out.length)]) (n := 1) (ks.length - (i + 1)) ⟨i + 1, (by omega), (by intro j hj h; rcases Nat.lt_succ_iff_lt_or_eq.1 h with h | rfl; exact hi1_1 j hj h; exact hno), rfl, rfl⟩ (by omega) id ⟨eD rfl rfl, eD rfl rfl, eD rfl rfl, e_ rfl rfl, eD rfl rfl, eD rfl rfl, eD rfl rfl, eD rfl rfl, eD rfl rfl, trivial⟩ ⟨rO (mapD (fun _ => rfl) _) rfl rfl, trivial⟩ rfl rfl rfl rfl (fun _ _ => rfl)
    · have hpl : planQ ks h mo l a = [] := by rw [show l = (l - 1) + 1 by omega]; exact planQ_none fun j hj => hi1_1 j hj (by omega)
      refine W_exit rfl ?_
      refine thenQ_x ?_
      refine thenQ_x ?_
      refine blkQ_x rfl ?_
      refine thenQ_n ?_
      refine W_exit rfl ?_
      refine blkQ_y rfl ?_
      refine thenQ_x ?_
      refine thenQ_x ?_
      refine blkQ_x rfl ?_
      refine thenQ_n ?_
      refine W_seq rfl ?_
      refine W_reg rfl ?_
      refine Rv rfl rfl rfl (U_move rfl) rfl rfl ?_
      refine Rv rfl rfl rfl (U_assign rfl) rfl rfl ?_
      refine Re rfl ?_
      refine thenQ_n ?_
      refine WfrO 0 (out.map i64) rfl (mapD (fun _ => rfl) _) (T' := [(6, .ros (out.map i64) out.length none)]) (H' := []) ⟨fO rfl, trivial⟩ trivial ?_
      refine W_ret rfl ?_
      refine noGo_r ?_
      exact retL (rlT rfl rl0) (by first | rfl | (simp only [packA]; rw [hi0_0, planQ]; simp; first | done | rfl) | (simp only [packA]; rw [hi0_0, hpl]; simp; first | done | rfl)) rfl
  · obtain rfl : l = 0 := by omega
    refine W_exit rfl ?_
    refine thenQ_x ?_
    refine thenQ_x ?_
    refine blkQ_x rfl ?_
    refine thenQ_n ?_
    refine W_seq rfl ?_
    refine W_reg rfl ?_
    refine Rv rfl rfl rfl (U_move rfl) rfl rfl ?_
    refine Rv rfl rfl rfl (U_assign rfl) rfl rfl ?_
    refine Re rfl ?_
    refine thenQ_n ?_
    refine WfrO 0 (out.map i64) rfl (mapD (fun _ => rfl) _) (T' := [(6, .ros (out.map i64) out.length none)]) (H' := []) ⟨fO rfl, trivial⟩ trivial ?_
    refine W_ret rfl ?_
    refine noGo_r ?_
    exact retL (rlT rfl rl0) (by first | rfl | (simp only [packA]; rw [hi0_0, planQ]; simp; first | done | rfl) | (simp only [packA]; rw [hi0_0, hpl]; simp; first | done | rfl)) rfl
/-- The error of a plan that is asked for. -/
noncomputable def plnE (ks : List Int) (mo : Int) : Int := if chkK ks ≠ 0 then chkK ks else if isMo mo = false then 2 else if geN (heiQ ks) mo.toNat = 20 then 13 else 0
noncomputable def plnR (ks : List Int) (mo : Int) : List Int := if plnE ks mo = 0 then planQ ks (heiQ ks) mo (geN (heiQ ks) mo.toNat) 0 else []
theorem planA_p (ks : List Int) (c : Option Nat) (hl : ks.length ≤ 1000000) (mo : Int) : Pure Try.prog 37 [intsA ks c, i64 mo] (.tup [intsA (plnR ks mo) none, i64 (plnE ks mo)]) := by
  refine pure_of_body Try.func37 (c := body Try.f37) rfl (by simp [Try.ntmps37]) fun w0 Φ0 => ?_
  refine W_seq rfl ?_
  refine W_reg rfl ?_
  refine Rv rfl rfl rfl (U_assign rfl) rfl rfl ?_
  refine Rv rfl rfl rfl (U_assign rfl) rfl rfl ?_
  refine Re rfl ?_
  refine thenQ_n ?_
  refine W_seq rfl ?_
  refine W_reg rfl ?_
  refine Rv rfl rfl rfl (U_move rfl) rfl rfl ?_
  refine Rv rfl rfl rfl (U_call rfl rfl (chkK_p ks c (by first | assumption | omega)) rfl) rfl rfl ?_
  refine Rv rfl rfl rfl (U_assign rfl) rfl rfl ?_
  refine Re rfl ?_
  refine thenQ_n ?_
  refine W_seq rfl ?_
  refine W_block rfl ?_
  refine W_seq rfl ?_
  refine W_reg rfl ?_
  refine Rv rfl rfl rfl (U_move rfl) rfl rfl ?_
  refine Rv rfl rfl rfl (U_neq rfl rfl) rfl rfl ?_
  refine Rv rfl rfl rfl (U_assign rfl) rfl rfl ?_
  refine Re rfl ?_
  refine thenQ_n ?_
  refine WcondP rfl rfl (fun hc0 => ?_) (fun hc0 => ?_)
  · have hpe : plnE ks mo = chkK ks := by rw [plnE, if_pos hc0]
    rw [plnR, hpe, if_neg hc0]
    refine W_seq rfl ?_
    refine W_reg rfl ?_
    refine Rv rfl rfl rfl (U_move rfl) rfl rfl ?_
    refine Rv rfl rfl rfl (U_assign rfl) rfl rfl ?_
    refine Rv rfl rfl rfl (U_assign rfl) rfl rfl ?_
    refine Re rfl ?_
    refine thenQ_n ?_
    refine WweakT (j := 4) rfl (le_nils (cs := [])) ?_
    refine W_ret rfl ?_
    refine blkQ_r ?_
    refine thenQ_r ?_
    exact retL (rlT rfl (rlT rfl rl0)) (by first | rfl | (simp only [packA]; rfl; first | done | rfl)) rfl
  · rw [Decidable.not_not] at hc0
    have hok := chkK_ok hc0
    have hk : ∀ x ∈ ks, 0 ≤ x ∧ x < 8 := fun x hx => by have := okK_get hok x hx; omega
    have hh : HOk (heiQ ks) := heiQ_ok
    have h8 := hh.len
    refine W_seq rfl ?_
    refine W_reg rfl ?_
    refine Rv rfl rfl rfl (U_move rfl) rfl rfl ?_
    refine Rv rfl rfl rfl (U_buildSliceF (by rfl) (by decide) rfl rfl rfl) rfl rfl ?_
    refine Rv rfl rfl rfl (U_call rfl rfl (within_p 0 7 [mo] (some 1) (by first | assumption | omega | (simp; done) | (simp; omega))) rfl) rfl rfl ?_
    refine Rv rfl rfl rfl (U_not rfl) rfl rfl ?_
    refine Rv rfl rfl rfl (U_assign rfl) rfl rfl ?_
    refine Re rfl ?_
    refine thenQ_n ?_
    refine Wcond rfl rfl (fun hc1 => ?_) (fun hc1 => ?_)
    · have hpe : plnE ks mo = 2 := by rw [plnE, if_neg (by simpa using hc0), if_pos (by rw [← inL_mo]; simpa using hc1)]
      rw [plnR, hpe, if_neg (by decide)]
      refine W_seq rfl ?_
      refine W_reg rfl ?_
      refine Rv rfl rfl rfl (U_assign rfl) rfl rfl ?_
      refine Rv rfl rfl rfl (U_assign rfl) rfl rfl ?_
      refine Re rfl ?_
      refine thenQ_n ?_
      refine WweakT (j := 4) rfl (le_nils (cs := [])) ?_
      refine W_ret rfl ?_
      refine blkQ_r ?_
      refine thenQ_r ?_
      exact retL (rlT rfl (rlT rfl rl0)) (by first | rfl | (simp only [packA]; rfl; first | done | rfl)) rfl
    · have hc1' := Bool.eq_false_iff.1 hc1
      have hmo := isMo_iff.1 (inL_mo ▸ (by simpa using hc1 : inL 0 7 [mo] = true))
      refine W_skip rfl ?_
      refine blkQ_n ?_
      refine thenQ_n ?_
      refine W_seq rfl ?_
      refine W_reg rfl ?_
      refine Rv rfl rfl rfl (U_move rfl) rfl rfl ?_
      refine Rv rfl rfl rfl (U_call rfl rfl (heights_p ks c (by first | assumption | omega) hok) rfl) rfl rfl ?_
      refine Ra rfl rfl rfl (U_alloc) rfl rfl rfl ?_
      refine Rn rfl rfl rfl (U_storeAll rfl rfl rfl (by simp; omega) rfl (allOne (fun _ => rfl) _)) rfl ?_
      refine Re rfl ?_
      refine thenQ_n ?_
      refine WfrN 0 rfl (mapD (fun _ => rfl) _) (T' := [(0, .ros (ks.map i64) ks.length c), (1, i64 mo), (7, .rop ((heiQ ks).map n64) 0)]) (H' := []) ⟨⟨_, rfl, rfl⟩, ⟨_, rfl, rfl⟩, ⟨_, rfl, rfl⟩, trivial⟩ trivial ?_
      refine W_seq rfl ?_
      refine W_seq rfl ?_
      refine W_reg rfl ?_
      refine Rv rfl rfl rfl (U_move rfl) rfl rfl ?_
      have hx1 : (mo).toNat < (heiQ ks).length := by omega
      refine Rv rfl rfl rfl (U_indexAR (j := (mo).toNat) rfl rfl (by omega) (by omega)) rfl rfl ?_
      refine Rv rfl rfl rfl (U_load1 rfl rfl (getM0 hx1)) rfl rfl ?_
      refine Rv rfl rfl rfl (U_eql rfl rfl) rfl rfl ?_
      refine Re rfl ?_
      refine thenQ_n ?_
      refine WcondP rfl rfl (fun hc2 => ?_) (fun hc2 => ?_)
      · have hpe : plnE ks mo = 13 := by rw [plnE, if_neg (by simpa using hc0), if_neg (by rw [← inL_mo]; simpa using hc1), if_pos (by rw [geN_get (by omega)]; omega)]
        rw [plnR, hpe, if_neg (by decide)]
        refine W_seq rfl ?_
        refine W_reg rfl ?_
        refine Rv rfl rfl rfl (U_assign rfl) rfl rfl ?_
        refine Rv rfl rfl rfl (U_assign rfl) rfl rfl ?_
        refine Re rfl ?_
        refine thenQ_n ?_
        refine WweakT (j := 4) rfl (le_nils (cs := [])) ?_
        refine W_ret rfl ?_
        refine thenQ_r ?_
        exact retL (rlT rfl (rlT rfl rl0)) (by first | rfl | (simp only [packA]; rfl; first | done | rfl)) rfl
      · have hpe : plnE ks mo = 0 := by rw [plnE, if_neg (by simpa using hc0), if_neg (by rw [← inL_mo]; simpa using hc1), if_neg (by rw [geN_get (by omega)]; omega)]
        rw [plnR, hpe, if_pos rfl]
        refine W_skip rfl ?_
        refine thenQ_n ?_
        refine W_seq rfl ?_
        refine W_reg rfl ?_
        refine Rv rfl rfl rfl (U_move rfl) rfl rfl ?_
        refine Rv rfl rfl rfl (U_loadAll rfl rfl (by simp; omega)) rfl rfl ?_
        refine Rv rfl rfl rfl (U_move rfl) rfl rfl ?_
        refine Rv rfl rfl rfl (U_call rfl rfl (plan_p ks c (by first | assumption | omega) hk (heiQ ks) hh mo (by first | assumption | omega)) (dataL_cons.2 ⟨rfl, dataL_cons.2 ⟨aggD (mapD (fun _ => rfl) _), rfl⟩⟩)) rfl rfl ?_
        refine Rv rfl rfl rfl (U_assign rfl) rfl rfl ?_
        refine Rv rfl rfl rfl (U_assign rfl) rfl rfl ?_
        refine Re rfl ?_
        refine thenQ_n ?_
        refine W_ret rfl ?_
        exact retL (rlT rfl (rlT rfl rl0)) (by first | rfl | (simp only [packA]; rfl; first | done | rfl)) rfl
end Go.Proofs.Ythoodfiacfmhgaa
end
