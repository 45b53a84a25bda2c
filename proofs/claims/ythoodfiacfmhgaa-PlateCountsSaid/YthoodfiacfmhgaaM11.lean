import Derived.Test.YthoodfiacfmhgaaM4
import Derived.Test.YthoodfiacfmhgaaM8
set_option linter.all false
section
/- Abstract states, thirty-fifth part: tests whose answer is known. -/
namespace Go.AE
theorem OpU.toB {C : Ctx} {o : Oper} {T : AT} {H : AH} {nx nx' : Nat} {v v' : Bool} {ups : AH} (h : OpU C o T H nx (.bool v) ups nx') (e : v = v') : OpU C o T H nx (.bool v') ups nx' := e ▸ h
theorem srcO {H : AH} {b o n : Nat} {cs : List AV} {t : TypeId} (hg : gt H b = outB cs t n) (hn : 0 < n) : src H (.ptr b o) = some (cs, o) := by
  obtain ⟨m, rfl⟩ : ∃ m, n = m + 1 := ⟨n - 1, by omega⟩
  simp only [src, hg, outB]
end Go.AE
end

section
/- Plates that are moved, and kinds by their bits: plain laws. -/
namespace Go.Proofs.Ythoodfiacfmhgaa
set_option maxRecDepth 20000
open Go.AE
theorem getD_get {l : List Int} {i : Nat} (h : i < l.length) : l.getD i 0 = l[i] := by
  rw [List.getD_eq_getElem?_getD, List.getElem?_eq_getElem h]; rfl
theorem movP_ds {p : Pl} {N : Nat} (hv : VP p N) (m : Int) : (movP p m).ds = movD N m p.ds := by
  unfold movP; rw [hv.n]; simp
/-- Where a dot lies behind a motion. -/
theorem mov_at {p : Pl} {N : Nat} (hv : VP p N) {m : Int} (hm : 0 ≤ m ∧ m < 8) {i : Nat} (hi : i < N * N) : (movP p m).ds[posN N m i]? = some (p.ds.getD i 0) := by
  rw [movP_ds hv]; exact movD_get hv.lo hv.hi hm hv.len hi
theorem movP_vp {p : Pl} {N : Nat} (hv : VP p N) {m : Int} (hm : 0 ≤ m ∧ m < 8) : VP (movP p m) N := by
  refine ⟨hv.n, hv.lo, hv.hi, by rw [movP_len, hv.len], fun x hx => ?_⟩
  obtain ⟨j, hj, rfl⟩ := List.getElem_of_mem hx
  have hj' : j < N * N := by rw [movP_len, hv.len] at hj; exact hj
  have hi := posN_lt hv.lo hv.hi (m := invM m) hj'
  have h1 := mov_at hv hm hi
  rw [(posN_inv hv.lo hm hj').2, List.getElem?_eq_getElem hj] at h1
  have h2 : posN N (invM m) j < p.ds.length := by rw [hv.len]; exact hi
  rw [getD_get h2] at h1
  rw [Option.some.inj h1]; exact hv.bd _ (List.getElem_mem h2)
theorem movP_aft {p : Pl} {N : Nat} (hv : VP p N) {a b : Int} (ha : 0 ≤ a ∧ a < 8) (hb : 0 ≤ b ∧ b < 8) : movP (movP p a) b = movP p (aft a b) := by
  have hva := movP_vp hv ha
  have hab := after_in ha hb
  have h : (movP (movP p a) b).ds = (movP p (aft a b)).ds := by
    refine mov_ext hv.lo hv.hi (m := aft a b) hab (by rw [movP_len, movP_len, hv.len]) (by rw [movP_len, hv.len]) fun i hi => ?_
    rw [mov_at hv hab hi, posN_aft hv.lo ha hb hi]
    have h1 := posN_lt hv.lo hv.hi (m := a) hi
    rw [mov_at hva hb h1]
    have h2 : posN N a i < (movP p a).ds.length := by rw [hva.len]; exact h1
    have h3 := mov_at hv ha hi
    rw [List.getElem?_eq_getElem h2] at h3
    rw [getD_get h2]; exact h3
  show Pl.mk _ _ = Pl.mk _ _
  congr 1
theorem movP_back {p : Pl} {N : Nat} (hv : VP p N) {a : Int} (ha : 0 ≤ a ∧ a < 8) : movP (movP p a) (invM a) = p := by
  rw [movP_aft hv ha (inv_in ha), (aft_inv1 ha).1, movP_0 hv]
theorem aft_assoc_all : (motions.all fun a => motions.all fun b => motions.all fun c => decide (aft (aft a b) c = aft a (aft b c))) = true := by decide +kernel
theorem aft_assoc {a b c : Int} (ha : 0 ≤ a ∧ a < 8) (hb : 0 ≤ b ∧ b < 8) (hc : 0 ≤ c ∧ c < 8) : aft (aft a b) c = aft a (aft b c) := by
  have := aft_assoc_all
  simp only [List.all_eq_true, decide_eq_true_eq] at this
  exact this a (mo_mem ha) b (mo_mem hb) c (mo_mem hc)
theorem vp_grt {p : Pl} {N : Nat} (h : VP p N) : grt p = false := by
  have := vp_64 (vp_chk h); simp [grt]; omega
theorem fine_ok {p : Pl} (h : (!grt p && decide (chkP p = 0)) = true) : chkP p = 0 := by simp at h; exact h.2
theorem vp_fine {p : Pl} {N : Nat} (h : VP p N) : (!grt p && decide (chkP p = 0)) = true := by rw [vp_grt h, vp_chk h]; rfl
theorem isMoT {m : Int} (h : 0 ≤ m ∧ m < 8) : isMo m = true := isMo_iff.2 h
theorem aftG {a b : Int} (ha : 0 ≤ a ∧ a < 8) (hb : 0 ≤ b ∧ b < 8) : aftR a b = aft a b ∧ aftE a b = 0 := ⟨if_pos ⟨isMoT ha, isMoT hb⟩, if_pos ⟨isMoT ha, isMoT hb⟩⟩
theorem invG {a : Int} (ha : 0 ≤ a ∧ a < 8) : invR a = invM a ∧ invE a = 0 := ⟨if_pos (isMoT ha), if_pos (isMoT ha)⟩
theorem mvG {p : Pl} {N : Nat} (hv : VP p N) {m : Int} (hm : 0 ≤ m ∧ m < 8) : mvR p m = movP p m ∧ mvE p m = 0 := by
  have h : mvE p m = 0 := by rw [mvE, if_neg (by simpa using vp_chk hv), if_pos (isMoT hm)]
  exact ⟨by rw [mvR, if_pos h], h⟩
theorem vp_mil {p : Pl} {N : Nat} (h : VP p N) : p.ds.length ≤ 1000000 := b1M (vp_64 (vp_chk h))
theorem mvG_p (p : Pl) (c : Option Nat) (N : Nat) (hv : VP p N) (m : Int) (hm : 0 ≤ m ∧ m < 8) : Pure Try.prog 19 [.agg [i64 p.n, intsA p.ds c], i64 m] (.tup [.agg [i64 (movP p m).n, intsA (movP p m).ds none], i64 0]) := by
  have := move_p p c (vp_mil hv) m; rwa [(mvG hv hm).1, (mvG hv hm).2] at this
theorem aftG_p (a b : Int) (ha : 0 ≤ a ∧ a < 8) (hb : 0 ≤ b ∧ b < 8) : Pure Try.prog 27 [i64 a, i64 b] (.tup [i64 (aft a b), i64 0]) := by
  have := afterA_p a b; rwa [(aftG ha hb).1, (aftG ha hb).2] at this
theorem invG_p (a : Int) (ha : 0 ≤ a ∧ a < 8) : Pure Try.prog 29 [i64 a] (.tup [i64 (invM a), i64 0]) := by
  have := inverseA_p a; rwa [(invG ha).1, (invG ha).2] at this
theorem isMoG_p (a : Int) (ha : 0 ≤ a ∧ a < 8) : Pure Try.prog 53 [i64 a] (.bool true) := by
  have := isMo_p a; rwa [isMoT ha] at this
theorem fineG_p (p : Pl) (c : Option Nat) (N : Nat) (hv : VP p N) : Pure Try.prog 55 [.agg [i64 p.n, intsA p.ds c]] (.bool true) := by
  have := fine_p p c; rwa [vp_fine hv] at this
theorem samE_p (p q : Pl) (c d : Option Nat) (hl : p.ds.length ≤ 1000000) (hl2 : q.ds.length ≤ 1000000) (h : p = q) : Pure Try.prog 25 [.agg [i64 p.n, intsA p.ds c], .agg [i64 q.n, intsA q.ds d]] (.bool true) := by
  subst h; exact samS_p p c d hl
end Go.Proofs.Ythoodfiacfmhgaa
end

section
/- What stays when a plate is moved: plain laws. -/
namespace Go.Proofs.Ythoodfiacfmhgaa
set_option maxRecDepth 20000
open Go.AE
theorem pos4 {N i : Nat} (h : 1 ≤ N) : posN N 4 i = i - i % N + N - 1 - i % N := by
  rw [posN_num, to4]
  have h1 := Nat.div_add_mod i N
  have h2 := Nat.mod_lt i (show 0 < N by omega)
  unfold numS; simp only
  have h3 : (((i / N : Nat) : Int) * N + ((N : Int) - 1 - ((i % N : Nat) : Int))) = ((N * (i / N) + (N - 1 - i % N) : Nat) : Int) := by
    rw [Int.mul_comm, Int.natCast_add, Int.natCast_mul, Int.natCast_sub (show i % N ≤ N - 1 by omega), Int.natCast_sub h]; rfl
  rw [h3, Int.toNat_natCast]
  omega
theorem pos2 {N i : Nat} (h : 1 ≤ N) (hi : i < N * N) : posN N 2 i = N * N - 1 - i := by
  rw [posN_num, to2]
  have h1 := Nat.div_add_mod i N
  have h2 := Nat.mod_lt i (show 0 < N by omega)
  have h4 : i / N ≤ N - 1 := by have := (Nat.div_lt_iff_lt_mul (show 0 < N by omega)).2 hi; omega
  have h5 : N * (N - 1 - i / N) = N * N - N - N * (i / N) := by rw [Nat.mul_sub, Nat.mul_sub, Nat.mul_one]
  have h6 : N * (i / N) + N ≤ N * N := by
    have := Nat.mul_le_mul_left N (show i / N + 1 ≤ N by omega)
    rw [Nat.mul_add, Nat.mul_one] at this; exact this
  unfold numS; simp only
  have h3 : (((N : Int) - 1 - ((i / N : Nat) : Int)) * N + ((N : Int) - 1 - ((i % N : Nat) : Int))) = ((N * (N - 1 - i / N) + (N - 1 - i % N) : Nat) : Int) := by
    rw [Int.mul_comm]
    rw [Int.natCast_add, Int.natCast_mul, Int.natCast_sub h4, Int.natCast_sub (show i % N ≤ N - 1 by omega), Int.natCast_sub h]; rfl
  rw [h3, Int.toNat_natCast]
  omega
theorem map_nodup {α β : Type} {f : α → β} : ∀ {l : List α}, l.Nodup → (∀ x ∈ l, ∀ y ∈ l, f x = f y → x = y) → (l.map f).Nodup
  | [], _, _ => List.nodup_nil
  | a :: l, h, hf => by
    rw [List.nodup_cons] at h
    rw [List.map_cons, List.nodup_cons]
    refine ⟨fun h2 => ?_, map_nodup h.2 fun x hx y hy => hf x (List.mem_cons_of_mem _ hx) y (List.mem_cons_of_mem _ hy)⟩
    obtain ⟨b, hb, e⟩ := List.mem_map.1 h2
    rw [hf b (List.mem_cons_of_mem _ hb) a (by simp) e] at hb
    exact h.1 hb
theorem list_range {l : List Int} : (List.range l.length).map (fun i => l.getD i 0) = l := by
  refine list_eq (by simp) fun j h1 h2 => ?_
  simp only [List.getElem_map, List.getElem_range]
  rw [getD_get h2]
theorem movP_perm {p : Pl} {N : Nat} (hv : VP p N) {m : Int} (hm : 0 ≤ m ∧ m < 8) : (movP p m).ds.Perm p.ds := by
  have hvm := movP_vp hv hm
  have h1 : ((List.range (N * N)).map (posN N m)).Perm (List.range (N * N)) := by
    refine (List.perm_ext_iff_of_nodup (map_nodup List.nodup_range fun x hx y hy e => ?_) List.nodup_range).2 fun a => ⟨fun h => ?_, fun h => ?_⟩
    · have h2 := (posN_inv hv.lo hm (List.mem_range.1 hx)).1
      rw [e, (posN_inv hv.lo hm (List.mem_range.1 hy)).1] at h2
      exact h2.symm
    · obtain ⟨i, hi, rfl⟩ := List.mem_map.1 h
      exact List.mem_range.2 (posN_lt hv.lo hv.hi (List.mem_range.1 hi))
    · have h3 := posN_lt hv.lo hv.hi (m := invM m) (List.mem_range.1 h)
      exact List.mem_map.2 ⟨_, List.mem_range.2 h3, (posN_inv hv.lo hm (List.mem_range.1 h)).2⟩
  have h2 := h1.map fun j => (movP p m).ds.getD j 0
  rw [List.map_map] at h2
  have h3 : (List.range (N * N)).map ((fun j => (movP p m).ds.getD j 0) ∘ posN N m) = p.ds := by
    conv => rhs; rw [← list_range (l := p.ds), hv.len]
    refine List.map_congr_left fun i hi => ?_
    have h4 := mov_at hv hm (List.mem_range.1 hi)
    simp only [Function.comp]
    rw [List.getD_eq_getElem?_getD, h4]; rfl
  have h5 : (List.range (N * N)).map (fun j => (movP p m).ds.getD j 0) = (movP p m).ds := by
    conv => rhs; rw [← list_range (l := (movP p m).ds), hvm.len]
  rw [h3, h5] at h2
  exact h2.symm
/-- A plate stays under a motion just if each dot is that where it is brought. -/
theorem stays_iff {p : Pl} {N : Nat} (hv : VP p N) {m : Int} (hm : 0 ≤ m ∧ m < 8) : (movP p m).ds = p.ds ↔ ∀ i, i < N * N → p.ds.getD (posN N m i) 0 = p.ds.getD i 0 := by
  constructor
  · intro h i hi
    have h1 := mov_at hv hm hi
    rw [h] at h1
    rw [List.getD_eq_getElem?_getD, h1]; rfl
  · intro h
    refine mov_ext hv.lo hv.hi (m := m) hm (by rw [movP_len, hv.len]) hv.len fun i hi => ?_
    rw [mov_at hv hm hi, ← h i hi]
    have h2 := posN_lt hv.lo hv.hi (m := m) hi
    rw [getD_get (by rw [hv.len]; exact h2), List.getElem?_eq_getElem (by rw [hv.len]; exact h2)]
/-- How many more dots of a class there are in one list than in another one, as far as a place. -/
def dif (a b : List Int) (k : Nat) (c : Int) : Int := ((a.take k).count c : Int) - ((b.take k).count c : Int)
def difs (a b : List Int) (k : Nat) : List Int := [dif a b k 0, dif a b k 1, dif a b k 2, dif a b k 3]
theorem dif_succ {a b : List Int} {k : Nat} (h1 : k < a.length) (h2 : k < b.length) (c : Int) : dif a b (k + 1) c = dif a b k c + (if a[k] = c then 1 else 0) - (if b[k] = c then 1 else 0) := by
  unfold dif
  rw [List.take_succ_eq_append_getElem h1, List.take_succ_eq_append_getElem h2, List.count_append, List.count_append, List.count_singleton, List.count_singleton]
  simp only [beq_iff_eq]
  split <;> split <;> push_cast <;> omega
theorem difs_len {a b : List Int} {k : Nat} : (difs a b k).length = 4 := rfl
theorem set4 {w x y z v : Int} {c : Int} (hc : 0 ≤ c ∧ c ≤ 3) (l : List Int) (hl : l = [w, x, y, z]) (h : c.toNat < l.length) : l.set c.toNat (l[c.toNat] + v) = [w + (if c = 0 then v else 0), x + (if c = 1 then v else 0), y + (if c = 2 then v else 0), z + (if c = 3 then v else 0)] := by
  subst hl
  have : c = 0 ∨ c = 1 ∨ c = 2 ∨ c = 3 := by omega
  rcases this with rfl | rfl | rfl | rfl <;> simp
theorem difs_step {a b : List Int} {k : Nat} (h1 : k < a.length) (h2 : k < b.length) (ha : 0 ≤ a[k] ∧ a[k] ≤ 3) (hb : 0 ≤ b[k] ∧ b[k] ≤ 3) {l l2 : List Int} (hl : l = difs a b k) (h3 : a[k].toNat < l.length) (hl2 : l2 = l.set a[k].toNat (l[a[k].toNat] + 1)) (h4 : b[k].toNat < l2.length) : l2.set b[k].toNat (l2[b[k].toNat] - 1) = difs a b (k + 1) := by
  have e1 := set4 (v := 1) ha l hl h3
  rw [← hl2] at e1
  have e2 := set4 (v := -1) hb l2 e1 h4
  rw [Int.sub_eq_add_neg, e2]
  unfold difs
  rw [dif_succ h1 h2, dif_succ h1 h2, dif_succ h1 h2, dif_succ h1 h2]
  congr 1
  · split <;> split <;> omega
  · congr 1
    · split <;> split <;> omega
    · congr 1
      · split <;> split <;> omega
      · congr 1
        split <;> split <;> omega
theorem difs_end {a b : List Int} (h : b.Perm a) : difs a b a.length = [0, 0, 0, 0] := by
  have hl := h.length_eq
  have : ∀ c, dif a b a.length c = 0 := fun c => by
    unfold dif
    rw [List.take_of_length_le (Nat.le_refl _), List.take_of_length_le (by omega), h.count_eq]; omega
  unfold difs
  rw [this, this, this, this]
theorem difs_bd {a b : List Int} {k : Nat} (hk : k ≤ 64) : ∀ x ∈ difs a b k, -64 ≤ x ∧ x ≤ 64 := by
  have : ∀ c, -64 ≤ dif a b k c ∧ dif a b k c ≤ 64 := fun c => by
    unfold dif
    have h1 := List.count_le_length (a := c) (l := a.take k)
    have h2 := List.count_le_length (a := c) (l := b.take k)
    rw [List.length_take] at h1 h2
    omega
  intro x hx
  simp only [difs, List.mem_cons, List.not_mem_nil, or_false] at hx
  rcases hx with rfl | rfl | rfl | rfl <;> exact this _
theorem set_bd {l : List Int} {i : Nat} {v : Int} (h : ∀ x ∈ l, -64 ≤ x ∧ x ≤ 64) (hv : -65 ≤ v ∧ v ≤ 65) : ∀ x ∈ l.set i v, -65 ≤ x ∧ x ≤ 65 := fun x hx => by
  rcases List.mem_or_eq_of_mem_set hx with hx | rfl
  · have := h x hx; omega
  · exact hv
/-- Whether the rows read alike from both ends, as far as a place. -/
def alB (N : Nat) (ds : List Int) (k : Nat) : Bool := (List.range k).all fun j => decide (ds.getD j 0 = ds.getD (posN N 4 j) 0)
theorem alB_succ {N : Nat} {ds : List Int} {k : Nat} : alB N ds (k + 1) = (alB N ds k && decide (ds.getD k 0 = ds.getD (posN N 4 k) 0)) := by
  simp [alB, List.range_succ, List.all_append]
theorem any_filt {p : Nat → Bool} {k m : Nat} (h : m < k) : ((filt p k).any fun y => decide ((m : Int) = y)) = p m := by
  rw [Bool.eq_iff_iff]
  constructor
  · intro h2
    obtain ⟨x, hx, e⟩ := List.any_eq_true.1 h2
    obtain ⟨i, hi, hp, rfl⟩ := filt_mem.1 hx
    have e : (m : Int) = (i : Int) := by simpa using e
    have : m = i := by omega
    subst this; exact hp
  · intro h2
    exact List.any_eq_true.2 ⟨(m : Int), filt_mem.2 ⟨m, h, h2, rfl⟩, by simp⟩
theorem stays_al {N : Nat} {ds : List Int} (hv : VP ⟨N, ds⟩ N) : ((staR ⟨N, ds⟩).any fun y => decide (4 = y)) = alB N ds (N * N) := by
  have h := any_filt (p := fun m => decide ((movP (⟨N, ds⟩ : Pl) m).ds = ds)) (k := 8) (m := 4) (by omega)
  rw [staR, if_pos (vp_chk hv)]
  refine h.trans ?_
  rw [Bool.eq_iff_iff]
  have h2 := stays_iff hv (m := 4) (by omega)
  simp only [decide_eq_true_eq] at h2 ⊢
  rw [alB, List.all_eq_true]
  refine h2.trans ⟨fun h i hi => ?_, fun h i hi => ?_⟩
  · simpa using (h i (List.mem_range.1 hi)).symm
  · have := h i (List.mem_range.2 hi); exact (of_decide_eq_true this).symm
end Go.Proofs.Ythoodfiacfmhgaa
end

section
/- Orders of lists, and groups of motions: plain laws. -/
namespace Go.Proofs.Ythoodfiacfmhgaa
set_option maxRecDepth 20000
open Go.AE
theorem cmpL_neg : ∀ (a b : List Int), cmpL a b = - cmpL b a
  | [], [] => rfl
  | [], _ :: _ => rfl
  | _ :: _, [] => rfl
  | a :: l, b :: m => by
    rw [cmpL, cmpL]
    split
    · rename_i h; rw [if_neg (by omega)]
    · split
      · rfl
      · exact cmpL_neg l m
theorem cmpL_zero : ∀ {a b : List Int}, cmpL a b = 0 → a = b
  | [], [], _ => rfl
  | [], _ :: _, h => by cases h
  | _ :: _, [], h => by cases h
  | a :: l, b :: m, h => by
    rw [cmpL] at h
    split at h
    · cases h
    · split at h
      · cases h
      · rw [cmpL_zero h]; congr 1; omega
theorem cmpL_trans : ∀ {a b c : List Int}, cmpL a b < 0 → cmpL b c < 0 → cmpL a c < 0
  | [], [], _, h, _ => by simp [cmpL] at h
  | [], _ :: _, [], _, h => by simp [cmpL] at h
  | [], _ :: _, _ :: _, _, _ => by simp [cmpL]
  | _ :: _, [], _, h, _ => by simp [cmpL] at h
  | _ :: _, _ :: _, [], _, h => by simp [cmpL] at h
  | a :: l, b :: m, c :: n, h, k => by
    rw [cmpL] at h k ⊢
    by_cases h1 : a < b
    · by_cases k1 : b < c
      · rw [if_pos (by omega)]; decide
      · rw [if_neg k1] at k
        by_cases k2 : c < b
        · rw [if_pos k2] at k; exact absurd k (by decide)
        · rw [if_pos (by omega)]; decide
    · rw [if_neg h1] at h
      by_cases h2 : b < a
      · rw [if_pos h2] at h; exact absurd h (by decide)
      · rw [if_neg h2] at h
        have e : a = b := by omega
        subst e
        by_cases k1 : a < c
        · rw [if_pos k1]; decide
        · rw [if_neg k1] at k ⊢
          by_cases k2 : c < a
          · rw [if_pos k2] at k; exact absurd k (by decide)
          · rw [if_neg k2] at k ⊢; exact cmpL_trans h k
/-- Not behind another one. -/
def leC (a b : List Int) : Prop := ¬ cmpL b a < 0
theorem leC_refl (a : List Int) : leC a a := by unfold leC; rw [cmpL_self]; decide
theorem leC_trans {a b c : List Int} (h : leC a b) (k : leC b c) : leC a c := fun h2 => by
  -- c < a, not b < a, not c < b
  unfold leC at h k
  by_cases e : cmpL a b = 0
  · rw [cmpL_zero e] at h2; exact k h2
  · have h3 : cmpL a b < 0 := by rw [cmpL_neg] at e ⊢; omega
    exact k (cmpL_trans h2 h3)
theorem leC_anti {a b : List Int} (h : leC a b) (k : leC b a) : a = b := by
  unfold leC at h k
  refine cmpL_zero ?_
  rw [cmpL_neg] at h
  omega
theorem bstL_le {p : Pl} : ∀ (l : List Int) (b : Int), (∀ x ∈ b :: l, leC (movP p (bstL (lesM p) b l)).ds (movP p x).ds)
  | [], b => by simp [bstL, leC_refl]
  | v :: l, b => by
    rw [bstL]
    have h := bstL_le (p := p) l (if lesM p v b then v else b)
    intro x hx
    by_cases hl : lesM p v b = true
    · rw [if_pos hl] at h ⊢
      have h1 : leC (movP p v).ds (movP p b).ds := by
        have h2 : cmpL (movP p v).ds (movP p b).ds < 0 := by simpa [lesM] using hl
        unfold leC; rw [cmpL_neg]; omega
      rcases List.mem_cons.1 hx with rfl | hx
      · exact leC_trans (h v (by simp)) h1
      · exact h x hx
    · rw [if_neg hl] at h ⊢
      rcases List.mem_cons.1 hx with rfl | hx
      · exact h x (by simp)
      · rcases List.mem_cons.1 hx with rfl | hx
        · refine leC_trans (h b (by simp)) ?_
          unfold leC; simpa [lesM] using hl
        · exact h x (List.mem_cons_of_mem _ hx)
theorem lstM_le {p : Pl} {l : List Int} {x : Int} (hx : x ∈ l) : leC (movP p (lstM p l)).ds (movP p x).ds := by
  cases l with
  | nil => cases hx
  | cons a l => exact bstL_le l a x hx
theorem bstL_keep {p : Pl} : ∀ (l : List Int) (b : Int), (∀ x ∈ l, leC (movP p b).ds (movP p x).ds) → bstL (lesM p) b l = b
  | [], b, _ => rfl
  | v :: l, b, h => by
    rw [bstL]
    have h1 := h v (by simp)
    rw [if_neg (by unfold leC at h1; simpa [lesM] using h1)]
    exact bstL_keep l b fun x hx => h x (List.mem_cons_of_mem _ hx)
/-! ### Kinds -/
theorem okK_ris : ∀ (l : List Int) (nx : Int), l.Pairwise (· < ·) → (∀ x ∈ l, nx ≤ x ∧ x ≤ 7) → okK nx l = true
  | [], _, _, _ => rfl
  | k :: l, nx, h, hb => by
    rw [List.pairwise_cons] at h
    rw [okK, Bool.and_eq_true]
    have h1 := hb k (by simp)
    refine ⟨by rw [inL1]; simpa using h1, okK_ris l (k + 1) h.2 fun x hx => ?_⟩
    have h2 := h.1 x hx; have h3 := hb x (List.mem_cons_of_mem _ hx); omega
theorem filt_okK (p : Nat → Bool) : okK 0 (filt p 8) = true := by
  refine okK_ris _ _ ?_ fun x hx => ?_
  · rw [filt, List.pairwise_map]
    refine (List.pairwise_lt_range.filter _).imp fun h => ?_
    omega
  · obtain ⟨i, hi, _, rfl⟩ := filt_mem.1 hx; omega
theorem chkK_0 {l : List Int} (h : okK 0 l = true) : chkK l = 0 := if_pos h
theorem kds_ok (b : Nat) : okK 0 (kdsQ b) = true := filt_okK _
theorem reached_ok (ks : List Int) : okK 0 (reachedQ ks) = true := filt_okK _
theorem stays_ok (p : Pl) : okK 0 (staysP p) = true := filt_okK _
theorem okK_mem {ks : List Int} (h : okK 0 ks = true) {x : Int} (hx : x ∈ ks) : 0 ≤ x ∧ x < 8 := by have := okK_get h x hx; omega
/-! ### Groups -/
def Gs : List (List Int) := [[0], [0, 2], [0, 4], [0, 5], [0, 6], [0, 7], [0, 1, 2, 3], [0, 2, 4, 6], [0, 2, 5, 7], [0, 1, 2, 3, 4, 5, 6, 7]]
theorem reach_all : (allK.all fun ks => Gs.contains (reachedQ ks)) = true := by decide +kernel
theorem reach_G {ks : List Int} (h : okK 0 ks = true) : reachedQ ks ∈ Gs := by
  have := List.all_eq_true.1 reach_all ks (okK_all h)
  simpa using this
theorem G_all : (Gs.all fun G => decide (0 ∈ G) && (G.all fun a => decide (0 ≤ a ∧ a < 8) && decide (invM a ∈ G) && G.all fun b => decide (aft a b ∈ G))) = true := by decide +kernel
theorem G_0 {G : List Int} (h : G ∈ Gs) : (0 : Int) ∈ G := by
  have := List.all_eq_true.1 G_all G h
  rw [Bool.and_eq_true] at this; simpa using this.1
theorem G_aft {G : List Int} (h : G ∈ Gs) {a b : Int} (ha : a ∈ G) (hb : b ∈ G) : aft a b ∈ G := by
  have := List.all_eq_true.1 G_all G h
  rw [Bool.and_eq_true] at this
  have := List.all_eq_true.1 this.2 a ha
  rw [Bool.and_eq_true] at this
  simpa using List.all_eq_true.1 this.2 b hb
theorem G_inv {G : List Int} (h : G ∈ Gs) {a : Int} (ha : a ∈ G) : invM a ∈ G ∧ 0 ≤ a ∧ a < 8 := by
  have := List.all_eq_true.1 G_all G h
  rw [Bool.and_eq_true] at this
  have := List.all_eq_true.1 this.2 a ha
  rw [Bool.and_eq_true, Bool.and_eq_true] at this
  exact ⟨by simpa using this.1.2, by simpa using this.1.1⟩
end Go.Proofs.Ythoodfiacfmhgaa
end

section
/- Least forms, and plates that are alike: plain laws. -/
namespace Go.Proofs.Ythoodfiacfmhgaa
set_option maxRecDepth 20000
open Go.AE
/-- The motion of the least form. -/
noncomputable def lsM (p : Pl) (ks : List Int) : Int := lstM p (reachedQ ks)
theorem ls_mem {p : Pl} {ks : List Int} : lsM p ks ∈ reachedQ ks := lstM_mem reached_len.1
theorem ls_in {p : Pl} {ks : List Int} : 0 ≤ lsM p ks ∧ lsM p ks < 8 := reached_in ls_mem
theorem ls_le {p : Pl} {ks : List Int} {x : Int} (hx : x ∈ reachedQ ks) : leC (movP p (lsM p ks)).ds (movP p x).ds := lstM_le hx
theorem aft_0_all : (motions.all fun a => decide (aft 0 a = a ∧ aft a 0 = a)) = true := by decide +kernel
theorem aft_0 {a : Int} (ha : 0 ≤ a ∧ a < 8) : aft 0 a = a ∧ aft a 0 = a := by
  have := aft_0_all
  simp only [List.all_eq_true, decide_eq_true_eq] at this
  exact this a (mo_mem ha)
theorem pl_ext {p q : Pl} (h1 : p.n = q.n) (h2 : p.ds = q.ds) : p = q := by
  obtain ⟨n, d⟩ := p; obtain ⟨m, e⟩ := q; simp only at h1 h2; rw [h1, h2]
theorem ls_same {p q : Pl} {ks : List Int} (hn : p.n = q.n) (h1 : ∀ x ∈ reachedQ ks, ∃ y ∈ reachedQ ks, movP q y = movP p x) (h2 : ∀ x ∈ reachedQ ks, ∃ y ∈ reachedQ ks, movP p y = movP q x) : movP p (lsM p ks) = movP q (lsM q ks) := by
  refine pl_ext hn (leC_anti ?_ ?_)
  · obtain ⟨y, hy, e⟩ := h2 _ (ls_mem (p := q) (ks := ks))
    rw [← e]; exact ls_le hy
  · obtain ⟨y, hy, e⟩ := h1 _ (ls_mem (p := p) (ks := ks))
    rw [← e]; exact ls_le hy
theorem mov_back {p : Pl} {N : Nat} (hv : VP p N) {g x : Int} (hg : 0 ≤ g ∧ g < 8) (hx : 0 ≤ x ∧ x < 8) : movP (movP p g) (aft (invM g) x) = movP p x := by
  rw [movP_aft hv hg (after_in (inv_in hg) hx), ← aft_assoc hg (inv_in hg) hx, (aft_inv1 hg).1, (aft_0 hx).1]
theorem ls_moved {p : Pl} {N : Nat} (hv : VP p N) {ks : List Int} (hok : okK 0 ks = true) {g : Int} (hg : g ∈ reachedQ ks) : movP (movP p g) (lsM (movP p g) ks) = movP p (lsM p ks) := by
  have hG := reach_G hok
  have hg8 := reached_in hg
  refine (ls_same (p := p) (q := movP p g) rfl (fun x hx => ?_) fun x hx => ?_).symm
  · exact ⟨aft (invM g) x, G_aft hG (G_inv hG hg).1 hx, mov_back hv hg8 (reached_in hx)⟩
  · exact ⟨aft g x, G_aft hG hg hx, (movP_aft hv hg8 (reached_in hx)).symm⟩
theorem ls_idem {p : Pl} {N : Nat} (hv : VP p N) {ks : List Int} (hok : okK 0 ks = true) : lsM (movP p (lsM p ks)) ks = 0 := by
  obtain ⟨t, ht⟩ := reached_0 (ks := ks)
  have hG := reach_G hok
  have hm := ls_mem (p := p) (ks := ks)
  have h8 := reached_in hm
  have hvm := movP_vp hv h8
  show lstM (movP p (lsM p ks)) (reachedQ ks) = 0
  rw [lstM, ht]
  refine bstL_keep t 0 fun x hx => ?_
  have hx' : x ∈ reachedQ ks := by rw [ht]; exact List.mem_cons_of_mem _ hx
  rw [movP_0 hvm, movP_aft hv h8 (reached_in hx')]
  exact ls_le (G_aft hG hm hx')
theorem alkF_t {p q : Pl} {ks : List Int} {k : Int} (h : alkF p q ks = some k) : k ∈ reachedQ ks ∧ (movP p k).ds = q.ds :=
  ⟨List.mem_of_find?_eq_some h, by simpa using List.find?_some h⟩
theorem alkF_f {p q : Pl} {ks : List Int} (h : alkF p q ks = none) {k : Int} (hk : k ∈ reachedQ ks) : (movP p k).ds ≠ q.ds := by
  have := List.find?_eq_none.1 h k hk; simpa using this
theorem alk_cases {p q : Pl} {N M : Nat} (hv : VP p N) (hw : VP q M) {ks : List Int} (hok : okK 0 ks = true) : (alkE p q ks = 0 ∧ movP p (lsM p ks) = movP q (lsM q ks)) ∨ (alkE p q ks = 5 ∧ samP (movP p (lsM p ks)) (movP q (lsM q ks)) = false) := by
  cases h : alkF p q ks with
  | some k =>
    obtain ⟨h1, h2⟩ := alkF_t h
    have e : movP p k = q := pl_ext (by rw [← same_n hv hw h2]; rfl) h2
    refine .inl ⟨(alk4 (vp_chk hv) (vp_chk hw) (chkK_0 hok) h).2, ?_⟩
    rw [← ls_moved hv hok h1, e]
  | none =>
    refine .inr ⟨(alk5 (vp_chk hv) (vp_chk hw) (chkK_0 hok) h).2, ?_⟩
    rw [Bool.eq_false_iff]
    intro hs
    simp only [samP, Bool.and_eq_true, decide_eq_true_eq] at hs
    have e : movP p (lsM p ks) = movP q (lsM q ks) := pl_ext hs.1 hs.2
    have hG := reach_G hok
    have h3 : movP (movP p (lsM p ks)) (invM (lsM q ks)) = movP (movP q (lsM q ks)) (invM (lsM q ks)) := congrArg (fun r => movP r (invM (lsM q ks))) e
    rw [movP_back hw ls_in, movP_aft hv ls_in (inv_in ls_in)] at h3
    exact alkF_f h (G_aft hG ls_mem (G_inv hG ls_mem).1) (by rw [h3])
theorem alk_back {p : Pl} {N : Nat} (hv : VP p N) {ks : List Int} (hok : okK 0 ks = true) {g : Int} (hg : g ∈ reachedQ ks) : alkE (movP p g) p ks = 0 ∧ (0 ≤ alkM (movP p g) p ks ∧ alkM (movP p g) p ks < 8) ∧ movP (movP p g) (alkM (movP p g) p ks) = p := by
  have hg8 := reached_in hg
  have hvg := movP_vp hv hg8
  have hG := reach_G hok
  cases h : alkF (movP p g) p ks with
  | some k =>
    obtain ⟨h1, h2⟩ := alkF_t h
    obtain ⟨h3, h4⟩ := alk4 (vp_chk hvg) (vp_chk hv) (chkK_0 hok) h
    rw [h3]
    exact ⟨h4, reached_in h1, pl_ext rfl h2⟩
  | none => exact absurd (by rw [movP_back hv hg8]) (alkF_f h (G_inv hG hg).1)
theorem hasT_p (l : List Int) (x : Int) (c : Option Nat) (hl : l.length ≤ 1000000) (h : x ∈ l) : Pure Try.prog 54 [intsA l c, i64 x] (.bool true) := by
  have k := has_p l x c hl
  rwa [show (l.any fun y => decide (x = y)) = true from List.any_eq_true.2 ⟨x, h, by simp⟩] at k
theorem leastG_p (p : Pl) (c : Option Nat) (N : Nat) (hv : VP p N) (ks : List Int) (d : Option Nat) (hok : okK 0 ks = true) : Pure Try.prog 43 [.agg [i64 p.n, intsA p.ds c], intsA ks d] (.tup [.agg [i64 (movP p (lsM p ks)).n, intsA (movP p (lsM p ks)).ds none], i64 (lsM p ks), i64 0]) := by
  have k := least_p p c (vp_mil hv) ks d (by have := okK_len hok; omega)
  have e : leaE p ks = 0 := by rw [leaE, if_neg (by simpa using vp_chk hv), chkK_0 hok]
  rwa [leaP, leaM, e, if_pos rfl, if_pos rfl] at k
theorem leastI_p (p : Pl) (c : Option Nat) (N : Nat) (hv : VP p N) (ks : List Int) (d : Option Nat) (hok : okK 0 ks = true) : Pure Try.prog 43 [.agg [i64 (movP p (lsM p ks)).n, intsA (movP p (lsM p ks)).ds c], intsA ks d] (.tup [.agg [i64 (movP p (lsM p ks)).n, intsA (movP p (lsM p ks)).ds none], i64 0, i64 0]) := by
  have k := leastG_p (movP p (lsM p ks)) c N (movP_vp hv ls_in) ks d hok
  rwa [ls_moved hv hok ls_mem, ls_idem hv hok] at k
theorem leastM_p (p : Pl) (c : Option Nat) (N : Nat) (hv : VP p N) (ks : List Int) (d : Option Nat) (hok : okK 0 ks = true) (g : Int) (hg : g ∈ reachedQ ks) : Pure Try.prog 43 [.agg [i64 (movP p g).n, intsA (movP p g).ds c], intsA ks d] (.tup [.agg [i64 (movP p (lsM p ks)).n, intsA (movP p (lsM p ks)).ds none], i64 (lsM (movP p g) ks), i64 0]) := by
  have k := leastG_p (movP p g) c N (movP_vp hv (reached_in hg)) ks d hok
  rwa [ls_moved hv hok hg] at k
theorem reachedG_p (ks : List Int) (c : Option Nat) (hok : okK 0 ks = true) : Pure Try.prog 51 [intsA ks c] (.tup [intsA (reachedQ ks) none, .bool true]) := by
  have k := reached51_p ks c (by have := okK_len hok; omega)
  have e : reaR ks = reachedQ ks := if_pos (chkK_0 hok)
  have e2 : reaB ks = true := by
    unfold reaB; rw [e, chkK_0 hok, chkK_0 (reached_ok ks)]
    have := (reached_len (ks := ks)).1
    simp; omega
  rwa [e, e2] at k
theorem behindF_p (a b : List Int) (c d : Option Nat) (ha : a.length ≤ 1000000) (hb : b.length ≤ 1000000) (hab : a.length = b.length) (h : leC a b) : Pure Try.prog 57 [intsA a c, intsA b d] (.bool false) := by
  have k := behind_p a b c d ha hb
  have e : bhd a b = false := by
    rw [bhd, if_neg (by omega)]
    unfold leC at h; rw [cmpL_neg] at h
    simp; omega
  rwa [e] at k
theorem alikeB_p (p : Pl) (c d : Option Nat) (N : Nat) (hv : VP p N) (ks : List Int) (e : Option Nat) (hok : okK 0 ks = true) (g : Int) (hg : g ∈ reachedQ ks) : Pure Try.prog 45 [.agg [i64 (movP p g).n, intsA (movP p g).ds c], .agg [i64 p.n, intsA p.ds d], intsA ks e] (.tup [i64 (alkM (movP p g) p ks), i64 0]) := by
  have k := alike_p (movP p g) p c d (vp_mil (movP_vp hv (reached_in hg))) (vp_mil hv) ks e (by have := okK_len hok; omega)
  rwa [(alk_back hv hok hg).1] at k
theorem alikeE_p (p q : Pl) (c d : Option Nat) (N M : Nat) (hv : VP p N) (hw : VP q M) (ks : List Int) (e : Option Nat) (hok : okK 0 ks = true) {x : Int} (hx : alkE p q ks = x) : Pure Try.prog 45 [.agg [i64 p.n, intsA p.ds c], .agg [i64 q.n, intsA q.ds d], intsA ks e] (.tup [i64 (alkM p q ks), i64 x]) := by
  have k := alike_p p q c d (vp_mil hv) (vp_mil hw) ks e (by have := okK_len hok; omega)
  rwa [hx] at k
theorem samF_p (p q : Pl) (c d : Option Nat) (hl : p.ds.length ≤ 1000000) (hl2 : q.ds.length ≤ 1000000) (h : samP p q = false) : Pure Try.prog 25 [.agg [i64 p.n, intsA p.ds c], .agg [i64 q.n, intsA q.ds d]] (.bool false) := by
  have k := samP_p p q c d hl hl2
  rwa [h] at k
end Go.Proofs.Ythoodfiacfmhgaa
end
