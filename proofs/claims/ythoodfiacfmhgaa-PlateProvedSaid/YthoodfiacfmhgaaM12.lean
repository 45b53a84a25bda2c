import Derived.Test.YthoodfiacfmhgaaM11
set_option linter.all false
section
/- What stays when a plate is moved: plain laws. -/
namespace Go.Proofs.Ythoodfiacfmhgaa
set_option maxRecDepth 20000
open Go.AE
theorem pos4 {N i : Nat} (h : 1 ≤ N) : posN N 4 i = i - i % N + N - 1 - i % N := by
  rw [posN_num, to4]
  have h1 := Nat.div_add_mod i N
  have h2 := Nat.mod_lt i (show 0 < N by omega)
  unfold numS; simp only
  have h3 : (((i / N : Nat) : Int) * N + ((N : Int) - 1 - ((i % N : Nat) : Int))) = ((N * (i / N) + (N - 1 - i % N) : Nat) : Int) := by
    rw [Int.mul_comm, Int.natCast_add, Int.natCast_mul, Int.natCast_sub (show i % N ≤ N - 1 by omega), Int.natCast_sub h]; rfl
  rw [h3, Int.toNat_natCast]
  omega
theorem pos2 {N i : Nat} (h : 1 ≤ N) (hi : i < N * N) : posN N 2 i = N * N - 1 - i := by
  rw [posN_num, to2]
  have h1 := Nat.div_add_mod i N
  have h2 := Nat.mod_lt i (show 0 < N by omega)
  have h4 : i / N ≤ N - 1 := by have := (Nat.div_lt_iff_lt_mul (show 0 < N by omega)).2 hi; omega
  have h5 : N * (N - 1 - i / N) = N * N - N - N * (i / N) := by rw [Nat.mul_sub, Nat.mul_sub, Nat.mul_one]
  have h6 : N * (i / N) + N ≤ N * N := by
    have := Nat.mul_le_mul_left N (show i / N + 1 ≤ N by omega)
    rw [Nat.mul_add, Nat.mul_one] at this; exact this
  unfold numS; simp only
  have h3 : (((N : Int) - 1 - ((i / N : Nat) : Int)) * N + ((N : Int) - 1 - ((i % N : Nat) : Int))) = ((N * (N - 1 - i / N) + (N - 1 - i % N) : Nat) : Int) := by
    rw [Int.mul_comm]
    rw [Int.natCast_add, Int.natCast_mul, Int.natCast_sub h4, Int.natCast_sub (show i % N ≤ N - 1 by omega), Int.natCast_sub h]; rfl
  rw [h3, Int.toNat_natCast]
  omega
theorem map_nodup {α β : Type} {f : α → β} : ∀ {l : List α}, l.Nodup → (∀ x ∈ l, ∀ y ∈ l, f x = f y → x = y) → (l.map f).Nodup
  | [], _, _ => List.nodup_nil
  | a :: l, h, hf => by
    rw [List.nodup_cons] at h
    rw [List.map_cons, List.nodup_cons]
    refine ⟨fun h2 => ?_, map_nodup h.2 fun x hx y hy => hf x (List.mem_cons_of_mem _ hx) y (List.mem_cons_of_mem _ hy)⟩
    obtain ⟨b, hb, e⟩ := List.mem_map.1 h2
    rw [hf b (List.mem_cons_of_mem _ hb) a (by simp) e] at hb
    exact h.1 hb
theorem list_range {l : List Int} : (List.range l.length).map (fun i => l.getD i 0) = l := by
  refine list_eq (by simp) fun j h1 h2 => ?_
  simp only [List.getElem_map, List.getElem_range]
  rw [getD_get h2]
theorem movP_perm {p : Pl} {N : Nat} (hv : VP p N) {m : Int} (hm : 0 ≤ m ∧ m < 8) : (movP p m).ds.Perm p.ds := by
  have hvm := movP_vp hv hm
  have h1 : ((List.range (N * N)).map (posN N m)).Perm (List.range (N * N)) := by
    refine (List.perm_ext_iff_of_nodup (map_nodup List.nodup_range fun x hx y hy e => ?_) List.nodup_range).2 fun a => ⟨fun h => ?_, fun h => ?_⟩
    · have h2 := (posN_inv hv.lo hm (List.mem_range.1 hx)).1
      rw [e, (posN_inv hv.lo hm (List.mem_range.1 hy)).1] at h2
      exact h2.symm
    · obtain ⟨i, hi, rfl⟩ := List.mem_map.1 h
      exact List.mem_range.2 (posN_lt hv.lo hv.hi (List.mem_range.1 hi))
    · have h3 := posN_lt hv.lo hv.hi (m := invM m) (List.mem_range.1 h)
      exact List.mem_map.2 ⟨_, List.mem_range.2 h3, (posN_inv hv.lo hm (List.mem_range.1 h)).2⟩
  have h2 := h1.map fun j => (movP p m).ds.getD j 0
  rw [List.map_map] at h2
  have h3 : (List.range (N * N)).map ((fun j => (movP p m).ds.getD j 0) ∘ posN N m) = p.ds := by
    conv => rhs; rw [← list_range (l := p.ds), hv.len]
    refine List.map_congr_left fun i hi => ?_
    have h4 := mov_at hv hm (List.mem_range.1 hi)
    simp only [Function.comp]
    rw [List.getD_eq_getElem?_getD, h4]; rfl
  have h5 : (List.range (N * N)).map (fun j => (movP p m).ds.getD j 0) = (movP p m).ds := by
    conv => rhs; rw [← list_range (l := (movP p m).ds), hvm.len]
  rw [h3, h5] at h2
  exact h2.symm
/-- A plate stays under a motion just if each dot is that where it is brought. -/
theorem stays_iff {p : Pl} {N : Nat} (hv : VP p N) {m : Int} (hm : 0 ≤ m ∧ m < 8) : (movP p m).ds = p.ds ↔ ∀ i, i < N * N → p.ds.getD (posN N m i) 0 = p.ds.getD i 0 := by
  constructor
  · intro h i hi
    have h1 := mov_at hv hm hi
    rw [h] at h1
    rw [List.getD_eq_getElem?_getD, h1]; rfl
  · intro h
    refine mov_ext hv.lo hv.hi (m := m) hm (by rw [movP_len, hv.len]) hv.len fun i hi => ?_
    rw [mov_at hv hm hi, ← h i hi]
    have h2 := posN_lt hv.lo hv.hi (m := m) hi
    rw [getD_get (by rw [hv.len]; exact h2), List.getElem?_eq_getElem (by rw [hv.len]; exact h2)]
/-- How many more dots of a class there are in one list than in another one, as far as a place. -/
def dif (a b : List Int) (k : Nat) (c : Int) : Int := ((a.take k).count c : Int) - ((b.take k).count c : Int)
def difs (a b : List Int) (k : Nat) : List Int := [dif a b k 0, dif a b k 1, dif a b k 2, dif a b k 3]
theorem dif_succ {a b : List Int} {k : Nat} (h1 : k < a.length) (h2 : k < b.length) (c : Int) : dif a b (k + 1) c = dif a b k c + (if a[k] = c then 1 else 0) - (if b[k] = c then 1 else 0) := by
  unfold dif
  rw [List.take_succ_eq_append_getElem h1, List.take_succ_eq_append_getElem h2, List.count_append, List.count_append, List.count_singleton, List.count_singleton]
  simp only [beq_iff_eq]
  split <;> split <;> push_cast <;> omega
theorem difs_len {a b : List Int} {k : Nat} : (difs a b k).length = 4 := rfl
theorem set4 {w x y z v : Int} {c : Int} (hc : 0 ≤ c ∧ c ≤ 3) (l : List Int) (hl : l = [w, x, y, z]) (h : c.toNat < l.length) : l.set c.toNat (l[c.toNat] + v) = [w + (if c = 0 then v else 0), x + (if c = 1 then v else 0), y + (if c = 2 then v else 0), z + (if c = 3 then v else 0)] := by
  subst hl
  have : c = 0 ∨ c = 1 ∨ c = 2 ∨ c = 3 := by omega
  rcases this with rfl | rfl | rfl | rfl <;> simp
theorem difs_step {a b : List Int} {k : Nat} (h1 : k < a.length) (h2 : k < b.length) (ha : 0 ≤ a[k] ∧ a[k] ≤ 3) (hb : 0 ≤ b[k] ∧ b[k] ≤ 3) {l l2 : List Int} (hl : l = difs a b k) (h3 : a[k].toNat < l.length) (hl2 : l2 = l.set a[k].toNat (l[a[k].toNat] + 1)) (h4 : b[k].toNat < l2.length) : l2.set b[k].toNat (l2[b[k].toNat] - 1) = difs a b (k + 1) := by
  have e1 := set4 (v := 1) ha l hl h3
  rw [← hl2] at e1
  have e2 := set4 (v := -1) hb l2 e1 h4
  rw [Int.sub_eq_add_neg, e2]
  unfold difs
  rw [dif_succ h1 h2, dif_succ h1 h2, dif_succ h1 h2, dif_succ h1 h2]
  congr 1
  · split <;> split <;> omega
  · congr 1
    · split <;> split <;> omega
    · congr 1
      · split <;> split <;> omega
      · congr 1
        split <;> split <;> omega
theorem difs_end {a b : List Int} (h : b.Perm a) : difs a b a.length = [0, 0, 0, 0] := by
  have hl := h.length_eq
  have : ∀ c, dif a b a.length c = 0 := fun c => by
    unfold dif
    rw [List.take_of_length_le (Nat.le_refl _), List.take_of_length_le (by omega), h.count_eq]; omega
  unfold difs
  rw [this, this, this, this]
theorem difs_bd {a b : List Int} {k : Nat} (hk : k ≤ 64) : ∀ x ∈ difs a b k, -64 ≤ x ∧ x ≤ 64 := by
  have : ∀ c, -64 ≤ dif a b k c ∧ dif a b k c ≤ 64 := fun c => by
    unfold dif
    have h1 := List.count_le_length (a := c) (l := a.take k)
    have h2 := List.count_le_length (a := c) (l := b.take k)
    rw [List.length_take] at h1 h2
    omega
  intro x hx
  simp only [difs, List.mem_cons, List.not_mem_nil, or_false] at hx
  rcases hx with rfl | rfl | rfl | rfl <;> exact this _
theorem set_bd {l : List Int} {i : Nat} {v : Int} (h : ∀ x ∈ l, -64 ≤ x ∧ x ≤ 64) (hv : -65 ≤ v ∧ v ≤ 65) : ∀ x ∈ l.set i v, -65 ≤ x ∧ x ≤ 65 := fun x hx => by
  rcases List.mem_or_eq_of_mem_set hx with hx | rfl
  · have := h x hx; omega
  · exact hv
/-- Whether the rows read alike from both ends, as far as a place. -/
def alB (N : Nat) (ds : List Int) (k : Nat) : Bool := (List.range k).all fun j => decide (ds.getD j 0 = ds.getD (posN N 4 j) 0)
theorem alB_succ {N : Nat} {ds : List Int} {k : Nat} : alB N ds (k + 1) = (alB N ds k && decide (ds.getD k 0 = ds.getD (posN N 4 k) 0)) := by
  simp [alB, List.range_succ, List.all_append]
theorem any_filt {p : Nat → Bool} {k m : Nat} (h : m < k) : ((filt p k).any fun y => decide ((m : Int) = y)) = p m := by
  rw [Bool.eq_iff_iff]
  constructor
  · intro h2
    obtain ⟨x, hx, e⟩ := List.any_eq_true.1 h2
    obtain ⟨i, hi, hp, rfl⟩ := filt_mem.1 hx
    have e : (m : Int) = (i : Int) := by simpa using e
    have : m = i := by omega
    subst this; exact hp
  · intro h2
    exact List.any_eq_true.2 ⟨(m : Int), filt_mem.2 ⟨m, h, h2, rfl⟩, by simp⟩
theorem stays_al {N : Nat} {ds : List Int} (hv : VP ⟨N, ds⟩ N) : ((staR ⟨N, ds⟩).any fun y => decide (4 = y)) = alB N ds (N * N) := by
  have h := any_filt (p := fun m => decide ((movP (⟨N, ds⟩ : Pl) m).ds = ds)) (k := 8) (m := 4) (by omega)
  rw [staR, if_pos (vp_chk hv)]
  refine h.trans ?_
  rw [Bool.eq_iff_iff]
  have h2 := stays_iff hv (m := 4) (by omega)
  simp only [decide_eq_true_eq] at h2 ⊢
  rw [alB, List.all_eq_true]
  refine h2.trans ⟨fun h i hi => ?_, fun h i hi => ?_⟩
  · simpa using (h i (List.mem_range.1 hi)).symm
  · have := h i (List.mem_range.2 hi); exact (of_decide_eq_true this).symm
end Go.Proofs.Ythoodfiacfmhgaa
end

section
/- What stays when a plate is moved. -/
namespace Go.Proofs.Ythoodfiacfmhgaa
set_option maxRecDepth 20000
open Go.AE
theorem plateKept0_p (p : Pl) (c : Option Nat) (a : Nat) (hf : (!grt p && decide (chkP p = 0)) = false) : Pure Try.prog 14 [plA p c, .int .u8 (a : Nat)] (.bool true) := by
  refine pure_of_body Try.func14 (c := body Try.f14) rfl (by simp [Try.ntmps14]) fun w0 Φ0 => ?_
  refine W_seq rfl ?_
  refine W_reg rfl ?_
  refine Rv rfl rfl rfl (U_boxF rfl rfl rfl) rfl rfl ?_
  refine Rv rfl rfl rfl (U_assign rfl) rfl rfl ?_
  refine Re rfl ?_
  refine thenQ_n ?_
  refine W_seq rfl ?_
  refine W_seq rfl ?_
  refine W_reg rfl ?_
  refine Rv rfl rfl rfl (U_load2 rfl rfl rfl rfl) rfl rfl ?_
  refine Rv rfl rfl rfl (U_call rfl rfl (fine_p p c) rfl) rfl rfl ?_
  refine Rv rfl rfl rfl (U_not rfl) rfl rfl ?_
  refine Re rfl ?_
  refine thenQ_n ?_
  refine Wcond rfl rfl (fun hc0 => ?_) (fun hc0 => absurd hc0 (by rw [hf]; simp))
  refine W_seq rfl ?_
  refine W_reg rfl ?_
  refine Rv rfl rfl rfl (U_call rfl rfl (works_p) rfl) rfl rfl ?_
  refine Rv rfl rfl rfl (U_assign rfl) rfl rfl ?_
  refine Re rfl ?_
  refine thenQ_n ?_
  refine W_ret rfl ?_
  refine thenQ_r ?_
  exact retL (rlT rfl rl0) rfl rfl
theorem plateKept1_p (N : Nat) (ds : List Int) (c : Option Nat) (hv : VP ⟨N, ds⟩ N) (a : Nat) (ha8 : a < 256) : Pure Try.prog 14 [.agg [i64 ((N : Nat) : Int), intsA ds c], .int .u8 (a : Nat)] (.bool true) := by
  have ha : 0 ≤ ((a % 8 : Nat) : Int) ∧ ((a % 8 : Nat) : Int) < 8 := by omega
  have h2 : (0 : Int) ≤ 2 ∧ (2 : Int) < 8 := by omega
  have hva := movP_vp hv ha
  have hvt := movP_vp hv h2
  have hlo := hv.lo
  have hhi := hv.hi
  have hlen : ds.length = N * N := hv.len
  have hlq : (movP (⟨((N : Nat) : Int), ds⟩ : Pl) ((a % 8 : Nat) : Int)).ds.length = N * N := hva.len
  have hlt : (movP (⟨((N : Nat) : Int), ds⟩ : Pl) 2).ds.length = N * N := hvt.len
  have hsl : (staR (⟨((N : Nat) : Int), ds⟩ : Pl)).length ≤ 1000000 := sz_staR
  have h64 : N * N ≤ 64 := Nat.mul_le_mul hhi hhi
  refine pure_of_body Try.func14 (c := body Try.f14) rfl (by simp [Try.ntmps14]) fun w0 Φ0 => ?_
  refine W_seq rfl ?_
  refine W_reg rfl ?_
  refine Rv rfl rfl rfl (U_boxF rfl rfl rfl) rfl rfl ?_
  refine Rv rfl rfl rfl (U_assign rfl) rfl rfl ?_
  refine Re rfl ?_
  refine thenQ_n ?_
  refine W_seq rfl ?_
  refine W_seq rfl ?_
  refine W_reg rfl ?_
  refine Rv rfl rfl rfl (U_load2 rfl rfl rfl rfl) rfl rfl ?_
  refine Rv rfl rfl rfl (U_call rfl rfl (fineG_p (⟨((N : Nat) : Int), ds⟩ : Pl) c N (by assumption)) rfl) rfl rfl ?_
  refine Rv rfl rfl rfl (U_not rfl) rfl rfl ?_
  refine Re rfl ?_
  refine thenQ_n ?_
  refine Wcond rfl rfl (fun h => nomatch h) (fun _ => ?_)
  refine W_skip rfl ?_
  refine thenQ_n ?_
  refine W_seq rfl ?_
  refine W_reg rfl ?_
  refine Rv rfl rfl rfl (U_load2 rfl rfl rfl rfl) rfl rfl ?_
  refine Rv rfl rfl rfl (U_move rfl) rfl rfl ?_
  refine Rv rfl rfl rfl (U_rem (c := ((a % 8 : Nat) : Int)) rfl rfl (by omega) (tmodN _ _)) rfl rfl ?_
  refine Rv rfl rfl rfl (U_convInt (by rfl) rfl (wr_i64 (by omega) (by omega))) rfl rfl ?_
  refine Rv rfl rfl rfl (U_call rfl rfl (mvG_p (⟨((N : Nat) : Int), ds⟩ : Pl) c N (by assumption) ((a % 8 : Nat) : Int) (by first | assumption | omega)) rfl) rfl rfl ?_
  refine Rv rfl rfl rfl (U_move rfl) rfl rfl ?_
  refine Rv rfl rfl rfl (U_extract rfl rfl) rfl rfl ?_
  refine Rv rfl rfl rfl (U_extract rfl rfl) rfl rfl ?_
  refine Ra rfl rfl rfl (U_alloc) rfl rfl rfl ?_
  refine Rn rfl rfl rfl (U_storeAll rfl rfl rfl rfl rfl rfl) rfl ?_
  refine Rv rfl rfl rfl (U_assign rfl) rfl rfl ?_
  refine Re rfl ?_
  refine thenQ_n ?_
  refine WfrN 0 rfl rfl (T' := [(2, .rop [i64 ((N : Nat) : Int), .ros (ds.map i64) ds.length c] 0), (5, .rop [i64 ((movP (⟨((N : Nat) : Int), ds⟩ : Pl) ((a % 8 : Nat) : Int)).n), .ros (((movP (⟨((N : Nat) : Int), ds⟩ : Pl) ((a % 8 : Nat) : Int)).ds).map i64) (((movP (⟨((N : Nat) : Int), ds⟩ : Pl) ((a % 8 : Nat) : Int)).ds).length) none] 0), (6, i64 0)]) (H' := []) ⟨⟨_, rfl, rfl⟩, ⟨_, rfl, rfl⟩, ⟨_, rfl, rfl⟩, trivial⟩ trivial ?_
  refine W_seq rfl ?_
  refine W_reg rfl ?_
  refine Rv rfl rfl rfl (U_load2 rfl rfl rfl rfl) rfl rfl ?_
  refine Rv rfl rfl rfl (U_call rfl rfl (mvG_p (⟨((N : Nat) : Int), ds⟩ : Pl) c N (by assumption) 2 (by first | assumption | omega)) rfl) rfl rfl ?_
  refine Rv rfl rfl rfl (U_move rfl) rfl rfl ?_
  refine Rv rfl rfl rfl (U_extract rfl rfl) rfl rfl ?_
  refine Rv rfl rfl rfl (U_extract rfl rfl) rfl rfl ?_
  refine Ra rfl rfl rfl (U_alloc) rfl rfl rfl ?_
  refine Rn rfl rfl rfl (U_storeAll rfl rfl rfl rfl rfl rfl) rfl ?_
  refine Rv rfl rfl rfl (U_assign rfl) rfl rfl ?_
  refine Re rfl ?_
  refine thenQ_n ?_
  refine WfrN 1 rfl rfl (T' := [(2, .rop [i64 ((N : Nat) : Int), .ros (ds.map i64) ds.length c] 0), (5, .rop [i64 ((movP (⟨((N : Nat) : Int), ds⟩ : Pl) ((a % 8 : Nat) : Int)).n), .ros (((movP (⟨((N : Nat) : Int), ds⟩ : Pl) ((a % 8 : Nat) : Int)).ds).map i64) (((movP (⟨((N : Nat) : Int), ds⟩ : Pl) ((a % 8 : Nat) : Int)).ds).length) none] 0), (6, i64 0), (7, .rop [i64 ((movP (⟨((N : Nat) : Int), ds⟩ : Pl) 2).n), .ros (((movP (⟨((N : Nat) : Int), ds⟩ : Pl) 2).ds).map i64) (((movP (⟨((N : Nat) : Int), ds⟩ : Pl) 2).ds).length) none] 0), (8, i64 0)]) (H' := []) ⟨⟨_, rfl, rfl⟩, ⟨_, rfl, rfl⟩, ⟨_, rfl, rfl⟩, ⟨_, rfl, rfl⟩, ⟨_, rfl, rfl⟩, trivial⟩ trivial ?_
  refine W_seq rfl ?_
  refine W_reg rfl ?_
  refine Rv rfl rfl rfl (U_load2 rfl rfl rfl rfl) rfl rfl ?_
  refine Rv rfl rfl rfl (U_call rfl rfl (stays_p (⟨((N : Nat) : Int), ds⟩ : Pl) c (by first | assumption | omega | exact Sz.le | (simp; done) | (simp; omega))) rfl) rfl rfl ?_
  refine Rv rfl rfl rfl (U_move rfl) rfl rfl ?_
  refine Rv rfl rfl rfl (U_extract rfl rfl) rfl rfl ?_
  refine Rv rfl rfl rfl (U_extract rfl rfl) rfl rfl ?_
  refine Rv rfl rfl rfl (U_assign rfl) rfl rfl ?_
  refine Rv rfl rfl rfl (U_assign rfl) rfl rfl ?_
  refine Re rfl ?_
  refine thenQ_n ?_
  refine W_seq rfl ?_
  refine W_seq rfl ?_
  refine W_reg rfl ?_
  refine Rv rfl rfl rfl (U_move rfl) rfl rfl ?_
  refine Rv rfl rfl rfl (U_neq rfl rfl) rfl rfl ?_
  refine Rv rfl rfl rfl (U_move rfl) rfl rfl ?_
  refine Rv rfl rfl rfl (U_move rfl) rfl rfl ?_
  refine Rv rfl rfl rfl (U_neq rfl rfl) rfl rfl ?_
  refine Rv rfl rfl rfl (U_pick_f rfl rfl) rfl rfl ?_
  refine Rv rfl rfl rfl (U_move rfl) rfl rfl ?_
  refine Rv rfl rfl rfl (U_move rfl) rfl rfl ?_
  refine Rv rfl rfl rfl (U_neqE (a := (chkP (⟨((N : Nat) : Int), ds⟩ : Pl))) (b := 0) rfl rfl (vp_chk hv)) rfl rfl ?_
  refine Rv rfl rfl rfl (U_pick_f rfl rfl) rfl rfl ?_
  refine Rv rfl rfl rfl (U_move rfl) rfl rfl ?_
  refine Rv rfl rfl rfl (U_load2 rfl rfl rfl rfl) rfl rfl ?_
  refine Rv rfl rfl rfl (U_call rfl rfl (fineG_p (movP (⟨((N : Nat) : Int), ds⟩ : Pl) ((a % 8 : Nat) : Int)) none N (by assumption)) rfl) rfl rfl ?_
  refine Rv rfl rfl rfl (U_not rfl) rfl rfl ?_
  refine Rv rfl rfl rfl (U_pick_f rfl rfl) rfl rfl ?_
  refine Rv rfl rfl rfl (U_move rfl) rfl rfl ?_
  refine Rv rfl rfl rfl (U_fieldAddrR rfl) rfl rfl ?_
  refine Rv rfl rfl rfl (U_load1 rfl rfl rfl) rfl rfl ?_
  refine Rv rfl rfl rfl (U_fieldAddrR rfl) rfl rfl ?_
  refine Rv rfl rfl rfl (U_load1 rfl rfl rfl) rfl rfl ?_
  refine Rv rfl rfl rfl (U_neqE (a := ((movP (⟨((N : Nat) : Int), ds⟩ : Pl) ((a % 8 : Nat) : Int)).n)) (b := ((N : Nat) : Int)) rfl rfl rfl) rfl rfl ?_
  refine Rv rfl rfl rfl (U_pick_f rfl rfl) rfl rfl ?_
  refine Rv rfl rfl rfl (U_move rfl) rfl rfl ?_
  refine Rv rfl rfl rfl (U_load2 rfl rfl rfl rfl) rfl rfl ?_
  refine Rv rfl rfl rfl (U_call rfl rfl (fineG_p (movP (⟨((N : Nat) : Int), ds⟩ : Pl) 2) none N (by assumption)) rfl) rfl rfl ?_
  refine Rv rfl rfl rfl (U_not rfl) rfl rfl ?_
  refine Rv rfl rfl rfl (U_pick_f rfl rfl) rfl rfl ?_
  refine Rv rfl rfl rfl (U_move rfl) rfl rfl ?_
  refine Rv rfl rfl rfl (U_fieldAddrR rfl) rfl rfl ?_
  refine Rv rfl rfl rfl (U_load1 rfl rfl rfl) rfl rfl ?_
  refine Rv rfl rfl rfl (U_fieldAddrR rfl) rfl rfl ?_
  refine Rv rfl rfl rfl (U_load1 rfl rfl rfl) rfl rfl ?_
  refine Rv rfl rfl rfl (U_neqE (a := ((movP (⟨((N : Nat) : Int), ds⟩ : Pl) 2).n)) (b := ((N : Nat) : Int)) rfl rfl rfl) rfl rfl ?_
  refine Rv rfl rfl rfl (U_pick_f rfl rfl) rfl rfl ?_
  refine Re rfl ?_
  refine thenQ_n ?_
  refine Wcond rfl rfl (fun h => nomatch h) (fun _ => ?_)
  refine W_skip rfl ?_
  refine thenQ_n ?_
  refine W_seq rfl ?_
  refine W_reg rfl ?_
  refine Ra rfl rfl rfl (U_alloc) rfl rfl rfl ?_
  refine Re rfl ?_
  refine thenQ_n ?_
  refine W_seq rfl ?_
  refine W_reg rfl ?_
  refine Rv rfl rfl rfl (U_assign rfl) rfl rfl ?_
  refine Re rfl ?_
  refine thenQ_n ?_
  refine W_seq rfl ?_
  refine W_seq rfl ?_
  refine W_reg rfl ?_
  refine Rv rfl rfl rfl (U_assign rfl) rfl rfl ?_
  refine Re rfl ?_
  refine thenQ_n ?_
  refine W_block rfl ?_
  refine LoopTo (T' := [(2, .rop [i64 ((N : Nat) : Int), .ros (ds.map i64) ds.length c] 0), (5, .rop [i64 ((movP (⟨((N : Nat) : Int), ds⟩ : Pl) ((a % 8 : Nat) : Int)).n), .ros (((movP (⟨((N : Nat) : Int), ds⟩ : Pl) ((a % 8 : Nat) : Int)).ds).map i64) (((movP (⟨((N : Nat) : Int), ds⟩ : Pl) ((a % 8 : Nat) : Int)).ds).length) none] 0), (7, .rop [i64 ((movP (⟨((N : Nat) : Int), ds⟩ : Pl) 2).n), .ros (((movP (⟨((N : Nat) : Int), ds⟩ : Pl) 2).ds).map i64) (((movP (⟨((N : Nat) : Int), ds⟩ : Pl) 2).ds).length) none] 0), (9, .ros ((staR (⟨((N : Nat) : Int), ds⟩ : Pl)).map i64) ((staR (⟨((N : Nat) : Int), ds⟩ : Pl)).length) none), (11, .ptr 2 0), (12, .bool true), (13, i64 ((0 : Nat) : Int))]) (H' := [(2, some (.cells ([0, 0, 0, 0].map i64) 68))]) (n := 3) rfl (fun mz_ qz_ => ∃ (k : Nat) (mm : List Int) (al : Bool), k ≤ ds.length ∧ mm = difs ds (movP (⟨((N : Nat) : Int), ds⟩ : Pl) ((a % 8 : Nat) : Int)).ds k ∧ al = alB N ds k ∧ mm.length = 4 ∧ mz_ = ds.length - k ∧ qz_ = ⟨[(2, .rop [i64 ((N : Nat) : Int), .ros (ds.map i64) ds.length c] 0), (5, .rop [i64 ((movP (⟨((N : Nat) : Int), ds⟩ : Pl) ((a % 8 : Nat) : Int)).n), .ros (((movP (⟨((N : Nat) : Int), ds⟩ : Pl) ((a % 8 : Nat) : Int)).ds).map i64) (((movP (⟨((N : Nat) : Int), ds⟩ : Pl) ((a % 8 : Nat) : Int)).ds).length) none] 0), (7, .rop [i64 ((movP (⟨((N : Nat) : Int), ds⟩ : Pl) 2).n), .ros (((movP (⟨((N : Nat) : Int), ds⟩ : Pl) 2).ds).map i64) (((movP (⟨((N : Nat) : Int), ds⟩ : Pl) 2).ds).length) none] 0), (9, .ros ((staR (⟨((N : Nat) : Int), ds⟩ : Pl)).map i64) ((staR (⟨((N : Nat) : Int), ds⟩ : Pl)).length) none), (11, .ptr 2 0), (12, .bool al), (13, i64 ((k : Nat) : Int))], [(2, some (.cells (mm.map i64) 68))], 3, []⟩) ⟨0, [0, 0, 0, 0], true, (by omega), rfl, rfl, rfl, rfl, rfl⟩ id ⟨eD rfl rfl, eD rfl rfl, eD rfl rfl, eD rfl rfl, e_ rfl rfl, eD rfl rfl, eD rfl rfl, trivial⟩ ⟨rD (mapD (fun _ => rfl) _) rfl rfl, trivial⟩ rfl rfl rfl rfl (fun _ _ => rfl) ?_
  rintro _ _ ⟨k, mm, al, hi0_0, hi0_1, hi0_2, hi0_3, rfl, rfl⟩
  refine W_seq rfl ?_
  refine W_seq rfl ?_
  refine W_reg rfl ?_
  refine Rv rfl rfl rfl (U_move rfl) rfl rfl ?_
  refine Rv rfl rfl rfl (U_fieldAddrR rfl) rfl rfl ?_
  refine Rv rfl rfl rfl (U_load1 rfl rfl rfl) rfl rfl ?_
  refine Rv rfl rfl rfl (U_lenOf rfl len_ros) rfl rfl ?_
  refine Rv rfl rfl rfl (U_lss rfl rfl) rfl rfl ?_
  refine Re rfl ?_
  refine thenQ_n ?_
  refine WcondP rfl rfl (fun hc2 => ?_) (fun hc2 => ?_)
  · have hck : k < ds.length := by omega
    have hcq : k < (movP (⟨((N : Nat) : Int), ds⟩ : Pl) ((a % 8 : Nat) : Int)).ds.length := by omega
    have hx1 := hv.bd _ (List.getElem_mem hck)
    have hx2 := hva.bd _ (List.getElem_mem hcq)
    have hmb := difs_bd (a := ds) (b := (movP (⟨((N : Nat) : Int), ds⟩ : Pl) ((a % 8 : Nat) : Int)).ds) (k := k) (by omega)
    rw [← hi0_1] at hmb
    have hk1 := Nat.mod_le k N
    have hk2 := Nat.mod_lt k (show 0 < N by omega)
    have hix : k - k % N + N - 1 - k % N < ds.length := by rw [← pos4 hlo, hlen]; exact posN_lt hlo hhi (by omega)
    have hxx : ds[k].toNat < mm.length := by have := hx1; omega
    have hb1 := hmb _ (List.getElem_mem hxx)
    have hyy : (movP (⟨((N : Nat) : Int), ds⟩ : Pl) ((a % 8 : Nat) : Int)).ds[k].toNat < (mm.set ds[k].toNat (mm[ds[k].toNat] + 1)).length := by rw [List.length_set]; omega
    have hb2 := set_bd hmb (i := ds[k].toNat) (v := mm[ds[k].toNat] + 1) (by omega) _ (List.getElem_mem hyy)
    have h2k : (movP (⟨((N : Nat) : Int), ds⟩ : Pl) 2).ds[ds.length - 1 - k]'(by omega) = ds[k] := by have h1 := mov_at hv h2 (i := k) (by omega); rw [pos2 hlo (by omega)] at h1; rw [List.getElem?_eq_getElem (by omega)] at h1; have h3 := Option.some.inj h1; rw [getD_get hck] at h3; simp only [hlen]; exact h3
    have hst := difs_step hck hcq hx1 hx2 hi0_1 hxx rfl hyy
    refine W_skip rfl ?_
    refine thenQ_n ?_
    refine W_seq rfl ?_
    refine W_block rfl ?_
    refine W_seq rfl ?_
    refine W_reg rfl ?_
    refine Rv rfl rfl rfl (U_fieldAddrR rfl) rfl rfl ?_
    refine Rv rfl rfl rfl (U_load1 rfl rfl rfl) rfl rfl ?_
    refine Rv rfl rfl rfl (U_move rfl) rfl rfl ?_
    have hx1 : k < ds.length := by omega
    refine Rv rfl rfl rfl (U_indexR (j := k) rfl rfl rfl hx1) rfl rfl ?_
    refine Rv rfl rfl rfl (U_load1 rfl rfl (getM hx1)) rfl rfl ?_
    have hx2 : (ds[k]).toNat < mm.length := by omega
    refine Rv rfl rfl rfl (U_indexA (j := (ds[k]).toNat) rfl rfl (by omega) (by omega)) rfl rfl ?_
    refine Rv rfl rfl rfl (U_load1 rfl rfl (getM0 hx2)) rfl rfl ?_
    refine Rv rfl rfl rfl (U_add rfl rfl (w64 (by omega) (by omega))) rfl rfl ?_
    refine Rv rfl rfl rfl (U_indexA (j := (ds[k]).toNat) rfl rfl (by omega) (by omega)) rfl rfl ?_
    refine Rn rfl rfl rfl (U_store (n := 1) (cs' := (mm.set ((ds[k]).toNat) ((mm[(ds[k]).toNat]) + 1)).map i64) rfl rfl rfl rfl rfl (stLt hx2) rfl setM) rfl ?_
    refine Re rfl ?_
    refine thenQ_n ?_
    refine W_seq rfl ?_
    refine W_reg rfl ?_
    refine Rv rfl rfl rfl (U_fieldAddrR rfl) rfl rfl ?_
    refine Rv rfl rfl rfl (U_load1 rfl rfl rfl) rfl rfl ?_
    refine Rv rfl rfl rfl (U_move rfl) rfl rfl ?_
    have hx3 : k < ((movP (⟨((N : Nat) : Int), ds⟩ : Pl) ((a % 8 : Nat) : Int)).ds).length := by omega
    refine Rv rfl rfl rfl (U_indexR (j := k) rfl rfl rfl hx3) rfl rfl ?_
    refine Rv rfl rfl rfl (U_load1 rfl rfl (getM hx3)) rfl rfl ?_
    have hx4 : (((movP (⟨((N : Nat) : Int), ds⟩ : Pl) ((a % 8 : Nat) : Int)).ds)[k]).toNat < (mm.set ((ds[k]).toNat) ((mm[(ds[k]).toNat]) + 1)).length := by omega
    refine Rv rfl rfl rfl (U_indexA (j := (((movP (⟨((N : Nat) : Int), ds⟩ : Pl) ((a % 8 : Nat) : Int)).ds)[k]).toNat) rfl rfl (by omega) (by omega)) rfl rfl ?_
    refine Rv rfl rfl rfl (U_load1 rfl rfl (getM0 hx4)) rfl rfl ?_
    refine Rv rfl rfl rfl (U_sub rfl rfl (w64 (by omega) (by omega))) rfl rfl ?_
    refine Rv rfl rfl rfl (U_indexA (j := (((movP (⟨((N : Nat) : Int), ds⟩ : Pl) ((a % 8 : Nat) : Int)).ds)[k]).toNat) rfl rfl (by omega) (by omega)) rfl rfl ?_
    refine Rn rfl rfl rfl (U_store (n := 1) (cs' := ((mm.set ((ds[k]).toNat) ((mm[(ds[k]).toNat]) + 1)).set ((((movP (⟨((N : Nat) : Int), ds⟩ : Pl) ((a % 8 : Nat) : Int)).ds)[k]).toNat) (((mm.set ((ds[k]).toNat) ((mm[(ds[k]).toNat]) + 1))[(((movP (⟨((N : Nat) : Int), ds⟩ : Pl) ((a % 8 : Nat) : Int)).ds)[k]).toNat]) - 1)).map i64) rfl rfl rfl rfl rfl (stLt hx4) rfl setM) rfl ?_
    refine Re rfl ?_
    refine thenQ_n ?_
    refine W_seq rfl ?_
    refine Wjoin ⟨[(2, .rop [i64 ((N : Nat) : Int), .ros (ds.map i64) ds.length c] 0), (5, .rop [i64 ((movP (⟨((N : Nat) : Int), ds⟩ : Pl) ((a % 8 : Nat) : Int)).n), .ros (((movP (⟨((N : Nat) : Int), ds⟩ : Pl) ((a % 8 : Nat) : Int)).ds).map i64) (((movP (⟨((N : Nat) : Int), ds⟩ : Pl) ((a % 8 : Nat) : Int)).ds).length) none] 0), (7, .rop [i64 ((movP (⟨((N : Nat) : Int), ds⟩ : Pl) 2).n), .ros (((movP (⟨((N : Nat) : Int), ds⟩ : Pl) 2).ds).map i64) (((movP (⟨((N : Nat) : Int), ds⟩ : Pl) 2).ds).length) none] 0), (9, .ros ((staR (⟨((N : Nat) : Int), ds⟩ : Pl)).map i64) ((staR (⟨((N : Nat) : Int), ds⟩ : Pl)).length) none), (11, .ptr 2 0), (12, .bool (al && (decide (ds[k] = ds[(k - k % N + N - 1 - k % N)])))), (13, i64 ((k : Nat) : Int))], [(2, some (.cells (((mm.set ((ds[k]).toNat) ((mm[(ds[k]).toNat]) + 1)).set ((((movP (⟨((N : Nat) : Int), ds⟩ : Pl) ((a % 8 : Nat) : Int)).ds)[k]).toNat) (((mm.set ((ds[k]).toNat) ((mm[(ds[k]).toNat]) + 1))[(((movP (⟨((N : Nat) : Int), ds⟩ : Pl) ((a % 8 : Nat) : Int)).ds)[k]).toNat]) - 1)).map i64) 68))], 3, []⟩ ?_ ?_
    · refine Wdraw rfl (by kernel_rfl) (by kernel_rfl) ?_
      refine Dv rfl rfl rfl (U_move rfl) rfl rfl ?_
      refine Dv rfl rfl rfl (U_move rfl) rfl rfl ?_
      refine Dsplit (t := 96) rfl (fun hg5 => ?_) (fun hg5 => ?_)
      · rw [hg5]
        refine Dv rfl rfl rfl (U_fieldAddrR rfl) rfl rfl ?_
        refine Dv rfl rfl rfl (U_load1 rfl rfl rfl) rfl rfl ?_
        refine Dv rfl rfl rfl (U_move rfl) rfl rfl ?_
        refine Dv rfl rfl rfl (U_indexR (j := k) rfl rfl rfl hx1) rfl rfl ?_
        refine Dv rfl rfl rfl (U_load1 rfl rfl (getM hx1)) rfl rfl ?_
        refine Dv rfl rfl rfl (U_fieldAddrR rfl) rfl rfl ?_
        refine Dv rfl rfl rfl (U_load1 rfl rfl rfl) rfl rfl ?_
        refine Dv rfl rfl rfl (U_move rfl) rfl rfl ?_
        refine Dv rfl rfl rfl (U_move rfl) rfl rfl ?_
        refine Dv rfl rfl rfl (U_fieldAddrR rfl) rfl rfl ?_
        refine Dv rfl rfl rfl (U_load1 rfl rfl rfl) rfl rfl ?_
        refine Dv rfl rfl rfl (U_rem (c := ((k % N : Nat) : Int)) rfl rfl (by omega) (tmodN _ _)) rfl rfl ?_
        refine Dv rfl rfl rfl (U_sub rfl rfl (w64e (m := ((k - k % N : Nat) : Int)) (by omega) (by omega) (by omega))) rfl rfl ?_
        refine Dv rfl rfl rfl (U_fieldAddrR rfl) rfl rfl ?_
        refine Dv rfl rfl rfl (U_load1 rfl rfl rfl) rfl rfl ?_
        refine Dv rfl rfl rfl (U_add rfl rfl (w64e (m := ((k - k % N + N : Nat) : Int)) (by omega) (by omega) (by omega))) rfl rfl ?_
        refine Dv rfl rfl rfl (U_sub rfl rfl (w64e (m := ((k - k % N + N - 1 : Nat) : Int)) (by omega) (by omega) (by omega))) rfl rfl ?_
        refine Dv rfl rfl rfl (U_move rfl) rfl rfl ?_
        refine Dv rfl rfl rfl (U_fieldAddrR rfl) rfl rfl ?_
        refine Dv rfl rfl rfl (U_load1 rfl rfl rfl) rfl rfl ?_
        refine Dv rfl rfl rfl (U_rem (c := ((k % N : Nat) : Int)) rfl rfl (by omega) (tmodN _ _)) rfl rfl ?_
        refine Dv rfl rfl rfl (U_sub rfl rfl (w64e (m := ((k - k % N + N - 1 - k % N : Nat) : Int)) (by omega) (by omega) (by omega))) rfl rfl ?_
        have hx6 : (k - k % N + N - 1 - k % N) < ds.length := by omega
        refine Dv rfl rfl rfl (U_indexR (j := (k - k % N + N - 1 - k % N)) rfl rfl rfl hx6) rfl rfl ?_
        refine Dv rfl rfl rfl (U_load1 rfl rfl (getM hx6)) rfl rfl ?_
        refine Dv rfl rfl rfl (U_eql rfl rfl) rfl rfl ?_
        refine Dv rfl rfl rfl (U_pick_t rfl rfl) rfl rfl ?_
        refine Dv rfl rfl rfl (U_assign rfl) rfl rfl ?_
        refine Dr.nil rfl ?_
        exact joinTo id ⟨eD rfl rfl, eD rfl rfl, eD rfl rfl, eD rfl rfl, e_ rfl rfl, eD rfl rfl, eD rfl rfl, trivial⟩ ⟨rD (mapD (fun _ => rfl) _) rfl rfl, trivial⟩ rfl rfl rfl rfl (fun _ _ => rfl)
      · rw [hg5]
        refine Ds rfl rfl rfl rfl rfl ?_
        refine Ds rfl rfl rfl rfl rfl ?_
        refine Ds rfl rfl rfl rfl rfl ?_
        refine Ds rfl rfl rfl rfl rfl ?_
        refine Ds rfl rfl rfl rfl rfl ?_
        refine Ds rfl rfl rfl rfl rfl ?_
        refine Ds rfl rfl rfl rfl rfl ?_
        refine Ds rfl rfl rfl rfl rfl ?_
        refine Ds rfl rfl rfl rfl rfl ?_
        refine Ds rfl rfl rfl rfl rfl ?_
        refine Ds rfl rfl rfl rfl rfl ?_
        refine Ds rfl rfl rfl rfl rfl ?_
        refine Ds rfl rfl rfl rfl rfl ?_
        refine Ds rfl rfl rfl rfl rfl ?_
        refine Ds rfl rfl rfl rfl rfl ?_
        refine Ds rfl rfl rfl rfl rfl ?_
        refine Ds rfl rfl rfl rfl rfl ?_
        refine Ds rfl rfl rfl rfl rfl ?_
        refine Ds rfl rfl rfl rfl rfl ?_
        refine Ds rfl rfl rfl rfl rfl ?_
        refine Ds rfl rfl rfl rfl rfl ?_
        refine Ds rfl rfl rfl rfl rfl ?_
        refine Ds rfl rfl rfl rfl rfl ?_
        refine Ds rfl rfl rfl rfl rfl ?_
        refine Ds rfl rfl rfl rfl rfl ?_
        refine Dv rfl rfl rfl (U_pick_f rfl rfl) rfl rfl ?_
        refine Dv rfl rfl rfl (U_assign rfl) rfl rfl ?_
        refine Dr.nil rfl ?_
        exact joinTo id ⟨eD rfl rfl, eD rfl rfl, eD rfl rfl, eD rfl rfl, e_ rfl rfl, eD rfl rfl, eD rfl rfl, trivial⟩ ⟨rD (mapD (fun _ => rfl) _) rfl rfl, trivial⟩ rfl rfl rfl rfl (fun _ _ => rfl)
    refine thenQ_n ?_
    refine W_seq rfl ?_
    refine Wdraw rfl (by kernel_rfl) (by kernel_rfl) ?_
    refine Dv rfl rfl rfl (U_fieldAddrR rfl) rfl rfl ?_
    refine Dv rfl rfl rfl (U_load1 rfl rfl rfl) rfl rfl ?_
    refine Dv rfl rfl rfl (U_fieldAddrR rfl) rfl rfl ?_
    refine Dv rfl rfl rfl (U_load1 rfl rfl rfl) rfl rfl ?_
    refine Dv rfl rfl rfl (U_lenOf rfl len_ros) rfl rfl ?_
    refine Dv rfl rfl rfl (U_sub rfl rfl (w64e (m := ((ds.length - 1 : Nat) : Int)) (by omega) (by omega) (by omega))) rfl rfl ?_
    refine Dv rfl rfl rfl (U_move rfl) rfl rfl ?_
    refine Dv rfl rfl rfl (U_sub rfl rfl (w64e (m := ((ds.length - 1 - k : Nat) : Int)) (by omega) (by omega) (by omega))) rfl rfl ?_
    have hx7 : (ds.length - 1 - k) < ((movP (⟨((N : Nat) : Int), ds⟩ : Pl) 2).ds).length := by omega
    refine Dv rfl rfl rfl (U_indexR (j := (ds.length - 1 - k)) rfl rfl rfl hx7) rfl rfl ?_
    refine Dv rfl rfl rfl (U_load1 rfl rfl (getM hx7)) rfl rfl ?_
    refine Dv rfl rfl rfl (U_fieldAddrR rfl) rfl rfl ?_
    refine Dv rfl rfl rfl (U_load1 rfl rfl rfl) rfl rfl ?_
    refine Dv rfl rfl rfl (U_move rfl) rfl rfl ?_
    refine Dv rfl rfl rfl (U_indexR (j := k) rfl rfl rfl hx1) rfl rfl ?_
    refine Dv rfl rfl rfl (U_load1 rfl rfl (getM hx1)) rfl rfl ?_
    refine Dv rfl rfl rfl (U_neqE (a := (((movP (⟨((N : Nat) : Int), ds⟩ : Pl) 2).ds)[(ds.length - 1 - k)])) (b := ds[k]) rfl rfl h2k) rfl rfl ?_
    refine Dr.nil rfl ?_
    refine thenQ_n ?_
    refine Wcond rfl rfl (fun h => nomatch h) (fun _ => ?_)
    refine W_skip rfl ?_
    refine blkQ_n ?_
    refine thenQ_n ?_
    refine W_reg rfl ?_
    refine Rv rfl rfl rfl (U_move rfl) rfl rfl ?_
    refine Rv rfl rfl rfl (U_add rfl rfl (w64e (m := ((k + 1 : Nat) : Int)) (by omega) (by omega) (by omega))) rfl rfl ?_
    refine Rv rfl rfl rfl (U_assign rfl) rfl rfl ?_
    refine Re rfl ?_
    refine thenQ_n ?_
    exact againTo (T' := [(2, .rop [i64 ((N : Nat) : Int), .ros (ds.map i64) ds.length c] 0), (5, .rop [i64 ((movP (⟨((N : Nat) : Int), ds⟩ : Pl) ((a % 8 : Nat) : Int)).n), .ros (((movP (⟨((N : Nat) : Int), ds⟩ : Pl) ((a % 8 : Nat) : Int)).ds).map i64) (((movP (⟨((N : Nat) : Int), ds⟩ : Pl) ((a % 8 : Nat) : Int)).ds).length) none] 0), (7, .rop [i64 ((movP (⟨((N : Nat) : Int), ds⟩ : Pl) 2).n), .ros (((movP (⟨((N : Nat) : Int), ds⟩ : Pl) 2).ds).map i64) (((movP (⟨((N : Nat) : Int), ds⟩ : Pl) 2).ds).length) none] 0), (9, .ros ((staR (⟨((N : Nat) : Int), ds⟩ : Pl)).map i64) ((staR (⟨((N : Nat) : Int), ds⟩ : Pl)).length) none), (11, .ptr 2 0), (12, .bool (al && (decide (ds[k] = ds[(k - k % N + N - 1 - k % N)])))), (13, i64 (((k + 1) : Nat) : Int))]) (H' := [(2, some (.cells (((mm.set ((ds[k]).toNat) ((mm[(ds[k]).toNat]) + 1)).set ((((movP (⟨((N : Nat) : Int), ds⟩ : Pl) ((a % 8 : Nat) : Int)).ds)[k]).toNat) (((mm.set ((ds[k]).toNat) ((mm[(ds[k]).toNat]) + 1))[(((movP (⟨((N : Nat) : Int), ds⟩ : Pl) ((a % 8 : Nat) : Int)).ds)[k]).toNat]) - 1)).map i64) 68))]) (n := 3) (ds.length - (k + 1)) ⟨k + 1, (mm.set ((ds[k]).toNat) ((mm[(ds[k]).toNat]) + 1)).set ((((movP (⟨((N : Nat) : Int), ds⟩ : Pl) ((a % 8 : Nat) : Int)).ds)[k]).toNat) (((mm.set ((ds[k]).toNat) ((mm[(ds[k]).toNat]) + 1))[(((movP (⟨((N : Nat) : Int), ds⟩ : Pl) ((a % 8 : Nat) : Int)).ds)[k]).toNat]) - 1), al && (decide (ds[k] = ds[(k - k % N + N - 1 - k % N)])), (by omega), hst, (by rw [alB_succ, ← hi0_2, getD_get hck, pos4 hlo, getD_get hix]), (by simpa using hi0_3), rfl, rfl⟩ (by omega) id ⟨eD rfl rfl, eD rfl rfl, eD rfl rfl, eD rfl rfl, e_ rfl rfl, eD rfl rfl, eD rfl rfl, trivial⟩ ⟨rD (mapD (fun _ => rfl) _) rfl rfl, trivial⟩ rfl rfl rfl rfl (fun _ _ => rfl)
  · obtain rfl : k = ds.length := by omega
    have hmm : mm = [0, 0, 0, 0] := by rw [hi0_1]; exact difs_end (movP_perm hv ha)
    have hal : al = ((staR (⟨((N : Nat) : Int), ds⟩ : Pl)).any fun y => decide (4 = y)) := by rw [hi0_2, hlen, stays_al hv]
    refine W_exit rfl ?_
    refine thenQ_x ?_
    refine thenQ_x ?_
    refine blkQ_x rfl ?_
    refine thenQ_n ?_
    refine W_seq rfl ?_
    refine Wjoin ⟨[(4, .bool ((decide (mm = ([0, 0, 0, 0] : List Int))) && (decide (((staR (⟨((N : Nat) : Int), ds⟩ : Pl)).any fun y => decide (4 = y)) = al))))], [], 0, []⟩ ?_ ?_
    · refine W_reg rfl ?_
      refine Rv rfl rfl rfl (U_loadAll rfl rfl (by simp; omega)) rfl rfl ?_
      refine Rv rfl rfl rfl (U_build rfl rfl) rfl rfl ?_
      refine Rv rfl rfl rfl (U_eqlA (p := mm = ([0, 0, 0, 0] : List Int)) (ks := [.i64, .i64, .i64, .i64]) rfl rfl (numsOf_map mm) (numsOf_map ([0, 0, 0, 0] : List Int)) (kindsA_map (n := 4) (by first | assumption | omega)) rfl Iff.rfl) rfl rfl ?_
      refine Rv rfl rfl rfl (U_move rfl) rfl rfl ?_
      refine Rsplit (t := 142) rfl (fun hg8 => ?_) (fun hg8 => ?_)
      · rw [hg8]
        have hg8' : mm = ([0, 0, 0, 0] : List Int) := of_decide_eq_true hg8
        refine Rv rfl rfl rfl (U_move rfl) rfl rfl ?_
        refine Rv rfl rfl rfl (U_call rfl rfl (has_p (staR (⟨((N : Nat) : Int), ds⟩ : Pl)) 4 none (by first | assumption | omega)) rfl) rfl rfl ?_
        refine Rv rfl rfl rfl (U_move rfl) rfl rfl ?_
        refine Rv rfl rfl rfl (U_eqlB rfl rfl) rfl rfl ?_
        refine Rv rfl rfl rfl (U_pick_t rfl rfl) rfl rfl ?_
        refine Rv rfl rfl rfl (U_move rfl) rfl rfl ?_
        refine Rsplit (t := 148) rfl (fun hg9 => ?_) (fun hg9 => ?_)
        · rw [hg9]
          have hg9' : ((staR (⟨((N : Nat) : Int), ds⟩ : Pl)).any fun y => decide (4 = y)) = al := of_decide_eq_true hg9
          refine Rv rfl rfl rfl (U_call rfl rfl (works_p) rfl) rfl rfl ?_
          refine Rv rfl rfl rfl (U_pick_t rfl rfl) rfl rfl ?_
          refine Rv rfl rfl rfl (U_assign rfl) rfl rfl ?_
          refine Re rfl ?_
          exact joinTo id ⟨eD rfl rfl, trivial⟩ trivial rfl rfl rfl rfl (fun _ _ => rfl)
        · rw [hg9]
          have hg9' : ¬ (((staR (⟨((N : Nat) : Int), ds⟩ : Pl)).any fun y => decide (4 = y)) = al) := of_decide_eq_false hg9
          refine Rs rfl rfl rfl rfl rfl ?_
          refine Rv rfl rfl rfl (U_pick_f rfl rfl) rfl rfl ?_
          refine Rv rfl rfl rfl (U_assign rfl) rfl rfl ?_
          refine Re rfl ?_
          exact joinTo id ⟨eD rfl rfl, trivial⟩ trivial rfl rfl rfl rfl (fun _ _ => rfl)
      · rw [hg8]
        have hg8' : ¬ (mm = ([0, 0, 0, 0] : List Int)) := of_decide_eq_false hg8
        refine Rs rfl rfl rfl rfl rfl ?_
        refine Rs rfl rfl rfl rfl rfl ?_
        refine Rs rfl rfl rfl rfl rfl ?_
        refine Rs rfl rfl rfl rfl rfl ?_
        refine Rv rfl rfl rfl (U_pick_f rfl rfl) rfl rfl ?_
        refine Rv rfl rfl rfl (U_move rfl) rfl rfl ?_
        refine Rs rfl rfl rfl rfl rfl ?_
        refine Rv rfl rfl rfl (U_pick_f rfl rfl) rfl rfl ?_
        refine Rv rfl rfl rfl (U_assign rfl) rfl rfl ?_
        refine Re rfl ?_
        exact joinTo id ⟨eD rfl rfl, trivial⟩ trivial rfl rfl rfl rfl (fun _ _ => rfl)
    refine thenQ_n ?_
    refine W_ret rfl ?_
    exact retL (rlT rfl rl0) (by first | rfl | (simp only [packA]; simp [hmm, hal]; first | done | rfl)) rfl
theorem plateKept_p (p : Pl) (c : Option Nat) (a : Nat) (ha8 : a < 256) : Pure Try.prog 14 [.agg [i64 p.n, intsA p.ds c], .int .u8 (a : Nat)] (.bool true) := by
  cases hf : (!grt p && decide (chkP p = 0)) with
  | false => exact plateKept0_p p c a hf
  | true =>
    obtain ⟨N, hv⟩ := vp_of (fine_ok hf)
    obtain ⟨n, ds⟩ := p
    have e := hv.n
    simp only at e
    subst e
    exact plateKept1_p N ds c hv a ha8
end Go.Proofs.Ythoodfiacfmhgaa
end
