import Derived.Test.YthlolelbmhfdbaaBqorderFour1
set_option linter.all false
section
namespace Go.Proofs.Ythlolelbmhfdbaa
set_option maxRecDepth 20000
open Go.AE
theorem dedup : ∀ (l : List Nat), ∃ L : List Nat, L.Nodup ∧ ∀ x, x ∈ L ↔ x ∈ l
  | [] => ⟨[], List.nodup_nil, fun _ => Iff.rfl⟩
  | a :: l => by
    obtain ⟨L, h1, h2⟩ := dedup l
    by_cases h : a ∈ l
    · exact ⟨L, h1, fun x => by
        rw [h2, List.mem_cons]
        constructor
        · exact .inr
        · rintro (rfl | k)
          · exact h
          · exact k⟩
    · exact ⟨a :: L, List.nodup_cons.2 ⟨fun k => h ((h2 a).1 k), h1⟩, fun x => by rw [List.mem_cons, List.mem_cons, h2]⟩
section
variable {H Z : Nat} {ls : List (List Bx)}
def lndP (H : Nat) (ls : List (List Bx)) (p : Pl2) : Option Nat := (List.range ls.length).find? fun i => inL' (ls.getD i []) H p.1 p.2
def labS (Z H : Nat) (ls : List (List Bx)) (c : Cell) : Nat :=
  if c.1 = 0 then ls.length else if c.1 = Z + 1 then ls.length + 1 else match lndP H ls (c.1 - 1, c.2) with
    | some i => i
    | none => ls.length + 2 + ((c.1 - 1) * H + c.2)
def Dis (Z H : Nat) (ls : List (List Bx)) : Prop := ∀ p : Pl2, p.1 < Z ∧ p.2 < H → ∀ i j, i < ls.length → j < ls.length → inL' (ls.getD i []) H p.1 p.2 = true → inL' (ls.getD j []) H p.1 p.2 = true → i = j
theorem lnd_some (hd : Dis Z H ls) {p : Pl2} (hp : p.1 < Z ∧ p.2 < H) {i : Nat} (hi : i < ls.length) : lndP H ls p = some i ↔ inL' (ls.getD i []) H p.1 p.2 = true := by
  unfold lndP
  constructor
  · intro h; have := List.find?_some (p := fun i => inL' (ls.getD i []) H p.1 p.2) h; exact this
  · intro h
    cases e : (List.range ls.length).find? fun i => inL' (ls.getD i []) H p.1 p.2 with
    | none =>
      have := List.find?_eq_none.1 e i (List.mem_range.2 hi)
      exact absurd h this
    | some j =>
      have h1 := List.find?_some e
      have h2 := List.mem_range.1 (List.mem_of_find?_eq_some e)
      rw [hd p hp i j hi h2 h h1]
theorem lab_in (hd : Dis Z H ls) {p : Pl2} (hp : p.1 < Z ∧ p.2 < H) {i : Nat} (hi : i < ls.length) : labS Z H ls (p.1 + 1, p.2) = i ↔ inL' (ls.getD i []) H p.1 p.2 = true := by
  rw [← lnd_some hd hp hi]
  unfold labS
  rw [if_neg (by simp), if_neg (by simp only; omega)]
  simp only [Nat.add_sub_cancel]
  cases h : lndP H ls p with
  | none =>
    show ls.length + 2 + (p.1 * H + p.2) = i ↔ (none : Option Nat) = some i
    constructor
    · intro k; omega
    · intro k; cases k
  | some j =>
    show j = i ↔ some j = some i
    simp
theorem lab_lt {c : Cell} (h : labS Z H ls c < ls.length) : 0 < c.1 ∧ c.1 ≠ Z + 1 := by
  unfold labS at h
  split at h
  · omega
  · split at h
    · omega
    · exact ⟨by omega, by assumption⟩
theorem bs_adj (hH : 1 ≤ H) {p q : Pl2} (hp : p.1 < Z ∧ p.2 < H) (h : q ∈ bsP Z H p.1 p.2) : Adj H (Z + 2) (p.1 + 1, p.2) (q.1 + 1, q.2) := by
  have hq := bsP_in hp.1 hp.2 q h
  unfold bsP at h
  simp only [List.mem_append] at h
  rcases h with ((h | h) | h) | h
  · split at h
    · rw [List.mem_singleton] at h; subst h
      refine ⟨(true, p.1 + 1, (p.2 + 1) % H), ⟨Nat.mod_lt _ hH, by show p.1 + 1 < Z + 2; omega⟩, .inl ⟨?_, rfl⟩⟩
      show (p.1 + 1, p.2) = (p.1 + 1, pvH H (nxH H p.2))
      rw [pv_nx hp.2]
    · cases h
  · split at h
    · rw [List.mem_singleton] at h; subst h
      exact ⟨(true, p.1 + 1, p.2), ⟨hp.2, by show p.1 + 1 < Z + 2; omega⟩, .inr ⟨rfl, rfl⟩⟩
    · cases h
  · split at h
    · rename_i h0
      rw [List.mem_singleton] at h; subst h
      refine ⟨(false, p.1, p.2), ⟨hp.2, by show p.1 + 1 < Z + 2; omega⟩, .inr ⟨rfl, ?_⟩⟩
      show (p.1 - 1 + 1, p.2) = (p.1, p.2)
      rw [show p.1 - 1 + 1 = p.1 by omega]
    · cases h
  · split at h
    · rename_i h0
      rw [List.mem_singleton] at h; subst h
      exact ⟨(false, p.1 + 1, p.2), ⟨hp.2, by show p.1 + 1 + 1 < Z + 2; omega⟩, .inl ⟨rfl, rfl⟩⟩
    · cases h
theorem con_pt (hH : 1 ≤ H) (hd : Dis Z H ls) {i : Nat} (hi : i < ls.length) {p q : Pl2} (hp : inP Z H (ls.getD i []) p) (h : Con Z H (ls.getD i []) p q) : inP Z H (ls.getD i []) q ∧ Pt H (Z + 2) (labS Z H ls) (p.1 + 1, p.2) (q.1 + 1, q.2) := by
  induction h with
  | refl => exact ⟨hp, .refl⟩
  | @step q r _ hb hr ih =>
    have hrr := bsP_in ih.1.1.1 ih.1.1.2 r hb
    refine ⟨⟨hrr, hr⟩, .step ih.2 (bs_adj hH ih.1.1 hb) ?_⟩
    rw [(lab_in hd hrr hi).2 hr, (lab_in hd ih.1.1 hi).2 ih.1.2]
theorem pie_con {la : List Bx} (h1 : pieQ Z H la ≤ 1) {p q : Pl2} (hp : inP Z H la p) (hq : inP Z H la q) : Con Z H la p q := by
  have ha := pcs_K (Z := Z) (H := H) (la := la) _ (Nat.le_refl _)
  obtain ⟨Rr, r1, r2, r3, r4⟩ := ha.rep
  have hin : ∀ x, inP Z H la x → ∃ r ∈ Rr, Con Z H la r x := fun x hx => by
    obtain ⟨j, hj, e⟩ := List.getElem_of_mem (plcQ_mem.2 hx.1)
    have := ha.all j hj hj (by rw [e]; exact hx.2)
    rw [e] at this
    exact r4 x this
  obtain ⟨r, hr, c1⟩ := hin p hp
  obtain ⟨r', hr', c2⟩ := hin q hq
  have hl : Rr.length ≤ 1 := by rw [r1]; exact h1
  have : r = r' := by
    cases Rr with
    | nil => cases hr
    | cons a l =>
      cases l with
      | nil => rw [List.mem_singleton] at hr hr'; rw [hr, hr']
      | cons b l => simp at hl
  subst this
  exact (c1.symm (ha.inn r (r2 r hr))).trans c2
theorem row_pt (hH : 1 ≤ H) {R : Nat} {lab : Cell → Nat} {r : Nat} (hr : r < R) (hc : ∀ h, h < H → lab (r, h) = lab (r, 0)) {h h' : Nat} (hh : h < H) (hh' : h' < H) : Pt H R lab (r, h) (r, h') := by
  have go : ∀ k, Pt H R lab (r, h) (r, (h + k) % H) := fun k => by
    induction k with
    | zero => rw [Nat.add_zero, Nat.mod_eq_of_lt hh]; exact .refl
    | succ k ih =>
      refine .step ih ⟨(true, r, (h + (k + 1)) % H), ⟨Nat.mod_lt _ hH, hr⟩, .inl ⟨?_, J⟩⟩ ?_
      · show (r, (h + k) % H) = (r, pvH H ((h + (k + 1)) % H))
        have e3 : nxH H ((h + k) % H) = (h + (k + 1)) % H := by unfold nxH; rw [Nat.mod_add_mod, Nat.add_assoc]
        rw [← e3, pv_nx (Nat.mod_lt _ hH)]
      · rw [hc _ (Nat.mod_lt _ hH), hc _ (Nat.mod_lt _ hH)]
  have := go (h' + H - h)
  rwa [show h + (h' + H - h) = h' + H by omega, Nat.add_mod_right, Nat.mod_eq_of_lt hh'] at this
theorem lab_0 {h : Nat} : labS Z H ls (0, h) = ls.length := if_pos rfl
theorem lab_1 {h : Nat} : labS Z H ls (Z + 1, h) = ls.length + 1 := by unfold labS; rw [if_neg (by simp), if_pos rfl]
theorem lab_cell (hH : 1 ≤ H) {c : Cell} (hc : c.1 < Z + 2 ∧ c.2 < H) : (c.1 = 0 ∧ labS Z H ls c = ls.length) ∨ (c.1 = Z + 1 ∧ labS Z H ls c = ls.length + 1) ∨ (labS Z H ls c < ls.length) ∨ (∃ z h, z < Z ∧ h < H ∧ c = (z + 1, h) ∧ labS Z H ls c = ls.length + 2 + (z * H + h)) := by
  obtain ⟨r, h⟩ := c
  by_cases h0 : r = 0
  · subst h0; exact .inl ⟨rfl, lab_0⟩
  · by_cases h1 : r = Z + 1
    · subst h1; exact .inr (.inl ⟨rfl, lab_1⟩)
    · cases e : lndP H ls (r - 1, h) with
      | some i =>
        right; right; left
        have : labS Z H ls (r, h) = i := by unfold labS; rw [if_neg h0, if_neg h1]; simp only [e]
        rw [this]; exact List.mem_range.1 (List.mem_of_find?_eq_some e)
      | none =>
        right; right; right
        have hc1 : r < Z + 2 := hc.1
        refine ⟨r - 1, h, by omega, hc.2, by rw [show r - 1 + 1 = r by omega], ?_⟩
        unfold labS; rw [if_neg h0, if_neg h1]; simp only [e]
theorem good_sky (hH : 1 ≤ H) (hd : Dis Z H ls) (hp : ∀ i, i < ls.length → pieQ Z H (ls.getD i []) ≤ 1) : Good H (Z + 2) (labS Z H ls) := by
  refine ⟨hH, by omega, fun h _ => by rw [lab_0, lab_0], fun h _ => by rw [show Z + 2 - 1 = Z + 1 by omega, lab_1, lab_1], fun p q cp cq e => ?_⟩
  rcases lab_cell (ls := ls) hH cp with ⟨k1, k2⟩ | ⟨k1, k2⟩ | k1 | ⟨z, h, hz, hh, rfl, k2⟩
  · rcases lab_cell (ls := ls) hH cq with ⟨m1, m2⟩ | ⟨m1, m2⟩ | m1 | ⟨z', h', hz', hh', rfl, m2⟩
    · obtain ⟨r, x⟩ := p
      obtain ⟨r', x'⟩ := q
      have k1 : r = 0 := k1
      have m1 : r' = 0 := m1
      subst k1 m1
      exact row_pt hH cp.1 (fun h _ => by rw [lab_0, lab_0]) cp.2 cq.2
    · omega
    · omega
    · omega
  · rcases lab_cell (ls := ls) hH cq with ⟨m1, m2⟩ | ⟨m1, m2⟩ | m1 | ⟨z', h', hz', hh', rfl, m2⟩
    · omega
    · obtain ⟨r, x⟩ := p
      obtain ⟨r', x'⟩ := q
      have k1 : r = Z + 1 := k1
      have m1 : r' = Z + 1 := m1
      subst k1 m1
      exact row_pt hH cp.1 (fun h _ => by rw [lab_1, lab_1]) cp.2 cq.2
    · omega
    · omega
  · obtain ⟨a1, a2⟩ := lab_lt k1
    obtain ⟨b1, b2⟩ := lab_lt (show labS Z H ls q < ls.length by rw [← e]; exact k1)
    obtain ⟨r, x⟩ := p
    obtain ⟨r', x'⟩ := q
    have cp1 : r < Z + 2 := cp.1
    have cq1 : r' < Z + 2 := cq.1
    have a1 : 0 < r := a1
    have b1 : 0 < r' := b1
    obtain ⟨z, rfl⟩ : ∃ z, r = z + 1 := ⟨r - 1, by omega⟩
    obtain ⟨z', rfl⟩ : ∃ z, r' = z + 1 := ⟨r' - 1, by omega⟩
    have a2 : z + 1 ≠ Z + 1 := a2
    have b2 : z' + 1 ≠ Z + 1 := b2
    have hz : (z, x).1 < Z ∧ (z, x).2 < H := ⟨by show z < Z; omega, cp.2⟩
    have hz' : (z', x').1 < Z ∧ (z', x').2 < H := ⟨by show z' < Z; omega, cq.2⟩
    have i1 := (lab_in hd hz k1).1 rfl
    have i2 := (lab_in hd hz' k1).1 e.symm
    exact (con_pt hH hd k1 (p := (z, x)) (q := (z', x')) ⟨hz, i1⟩ (pie_con (hp _ k1) ⟨hz, i1⟩ ⟨hz', i2⟩)).2
  · rcases lab_cell (ls := ls) hH cq with ⟨m1, m2⟩ | ⟨m1, m2⟩ | m1 | ⟨z', h', hz', hh', rfl, m2⟩
    · omega
    · omega
    · omega
    · rw [k2, m2] at e
      have e2 : z * H + h = z' * H + h' := by omega
      have d1 := zh_div (z := z) hh
      have d2 := zh_div (z := z') hh'
      rw [e2] at d1
      have : z = z' ∧ h = h' := ⟨d1.1.symm.trans d2.1, d1.2.symm.trans d2.2⟩
      rw [this.1, this.2]; exact .refl
theorem near_sky (hH : 1 ≤ H) (hd : Dis Z H ls) {i j : Nat} (hi : i < ls.length) (hj : j < ls.length) (hij : i ≠ j) (h : nrQ Z H (ls.getD i []) (ls.getD j []) = true) : near H (Z + 2) (labS Z H ls) i j := by
  unfold nrQ at h
  rw [Bool.or_eq_true, decide_eq_true_eq] at h
  rcases h with h | h
  · obtain ⟨p, hp, h2⟩ := List.any_eq_true.1 h
    rw [Bool.and_eq_true] at h2
    exact absurd (hd p (plcQ_mem.1 hp) i j hi hj h2.1 h2.2) hij
  · have hex : ∃ p ∈ plcQ Z H, 0 < bitQ (ls.getD i []) H p.1 p.2 * nbQ Z H (ls.getD j []) p.1 p.2 := by
      refine Classical.byContradiction fun hc => ?_
      have : brQ Z H (ls.getD i []) (ls.getD j []) = 0 := by
        unfold brQ
        rw [List.sum_eq_zero_iff_forall_eq_nat]
        intro x hx
        obtain ⟨p, hp, rfl⟩ := List.mem_map.1 hx
        exact Nat.eq_zero_of_not_pos fun k => hc ⟨p, hp, k⟩
      omega
    obtain ⟨p, hp, hpos⟩ := hex
    have hp := plcQ_mem.1 hp
    have h1 : 0 < bitQ (ls.getD i []) H p.1 p.2 := Nat.pos_of_mul_pos_left hpos |> fun k => by
      rcases Nat.eq_zero_or_pos (bitQ (ls.getD i []) H p.1 p.2) with e | e
      · rw [e, Nat.zero_mul] at hpos; omega
      · exact e
    have h2 : 0 < nbQ Z H (ls.getD j []) p.1 p.2 := by
      rcases Nat.eq_zero_or_pos (nbQ Z H (ls.getD j []) p.1 p.2) with e | e
      · rw [e, Nat.mul_zero] at hpos; omega
      · exact e
    have hq : ∃ q ∈ bsP Z H p.1 p.2, 0 < bitQ (ls.getD j []) H q.1 q.2 := by
      refine Classical.byContradiction fun hc => ?_
      have : nbQ Z H (ls.getD j []) p.1 p.2 = 0 := by
        unfold nbQ
        rw [List.sum_eq_zero_iff_forall_eq_nat]
        intro x hx
        obtain ⟨q, hq, rfl⟩ := List.mem_map.1 hx
        exact Nat.eq_zero_of_not_pos fun k => hc ⟨q, hq, k⟩
      omega
    obtain ⟨q, hq, hqb⟩ := hq
    have hqr := bsP_in hp.1 hp.2 q hq
    have b1 : inL' (ls.getD i []) H p.1 p.2 = true := by unfold bitQ at h1; split at h1; assumption; omega
    have b2 : inL' (ls.getD j []) H q.1 q.2 = true := by unfold bitQ at hqb; split at hqb; assumption; omega
    have l1 := (lab_in hd hp hi).2 b1
    have l2 := (lab_in hd hqr hj).2 b2
    have := near_adj (lab := labS Z H ls) (bs_adj hH hp hq) (by rw [l1, l2]; exact hij)
    rwa [l1, l2] at this
theorem sky_four (hH : 1 ≤ H) (hn : ls.length ≤ 10) (hd : Dis Z H ls) (hp : ∀ i, i < ls.length → pieQ Z H (ls.getD i []) ≤ 1) : ∃ c : Nat → Nat, (∀ a, c a < 4) ∧ ∀ i j, i < ls.length → j < ls.length → i ≠ j → nrQ Z H (ls.getD i []) (ls.getD j []) = true → c i ≠ c j := by
  have g := good_sky hH hd hp
  obtain ⟨L, hL, hm⟩ := dedup ((gl (Z + 2) H).map (labS Z H ls))
  have l : Lst H (Z + 2) (labS Z H ls) L := ⟨hL, fun p cp => (hm _).2 (List.mem_map.2 ⟨p, gl_mem.2 cp, rfl⟩), fun x hx => by
    obtain ⟨p, hp, e⟩ := List.mem_map.1 ((hm x).1 hx)
    exact ⟨p, gl_mem.1 hp, e⟩⟩
  let K := L.filter fun x => decide (x < ls.length)
  have hK : K.Nodup := hL.filter _
  have hKm : ∀ x, x ∈ K ↔ x ∈ L ∧ x < ls.length := fun x => by show x ∈ L.filter _ ↔ _; rw [List.mem_filter, decide_eq_true_eq]
  by_cases h0 : K = []
  · refine ⟨fun _ => 0, fun _ => by show 0 < 4; omega, fun i j hi hj hij h => ?_⟩
    have := near_sky hH hd hi hj hij h
    have h1 : i ∈ K := (hKm i).2 ⟨(near_in g l this).1, hi⟩
    rw [h0] at h1; cases h1
  · have hKL : K.length ≤ L.length := sub_len hK fun x hx => ((hKm x).1 hx).1
    obtain ⟨lab', g', l', h'⟩ := shrink (L.length - K.length) (labS Z H ls) L K g l hK (fun x hx => ((hKm x).1 hx).1) h0 (by omega)
    have hK10 : K.length ≤ ls.length := by
      have := sub_len (L := List.range ls.length) hK fun x hx => List.mem_range.2 ((hKm x).1 hx).2
      rwa [List.length_range] at this
    obtain ⟨c, c1, c2⟩ := four_cols K.length lab' K g' l' (Nat.le_refl _) (by omega)
    refine ⟨c, c1, fun i j hi hj hij h => ?_⟩
    have hn := near_sky hH hd hi hj hij h
    have hi2 := near_in g l hn
    exact c2 i j (h' i j ((hKm i).2 ⟨hi2.1, hi⟩) ((hKm j).2 ⟨hi2.2, hj⟩) hn)
end
end Go.Proofs.Ythlolelbmhfdbaa
end

section
namespace Go.Proofs.Ythlolelbmhfdbaa
set_option maxRecDepth 20000
open Go.AE
theorem sub_lenG {α : Type} [DecidableEq α] : ∀ {K L : List α}, K.Nodup → (∀ x ∈ K, x ∈ L) → K.length ≤ L.length
  | [], _, _, _ => by simp
  | a :: K, L, hK, h => by
    have hn := List.nodup_cons.1 hK
    have ha := h a List.mem_cons_self
    have := sub_lenG (K := K) (L := L.erase a) hn.2 fun x hx => (List.mem_erase_of_ne (fun e => hn.1 (by rw [← e]; exact hx))).2 (h x (List.mem_cons_of_mem _ hx))
    have h2 := (List.perm_cons_erase ha).length_eq
    rw [List.length_cons] at h2 ⊢
    omega
section
variable {H Z : Nat} {ls : List (List Bx)}
theorem ntr_mem {i : Nat} (hi : i < ls.length) {k : Int} : k ∈ (ntrK Z H ls ls.length).getD i [] ↔ ∃ y : Nat, y < i ∧ nrQ Z H (ls.getD i []) (ls.getD y []) = true ∧ k = (y : Int) := by
  have e : (ntrK Z H ls ls.length).getD i [] = ntrR Z H ls i i := by
    rw [List.getD_eq_getElem?_getD, List.getElem?_eq_getElem (by rw [ntrK_len]; exact hi)]; simp [ntrK]
  rw [e, ntrR, List.mem_map]
  constructor
  · rintro ⟨y, hy, rfl⟩
    rw [List.mem_filter, List.mem_range] at hy
    exact ⟨y, hy.1, hy.2, rfl⟩
  · rintro ⟨y, h1, h2, rfl⟩
    exact ⟨y, by rw [List.mem_filter, List.mem_range]; exact ⟨h1, h2⟩, rfl⟩
theorem good_iff {i : Nat} (hi : i < ls.length) {b : List Int} (hb : b.length = i) {t : Nat} : goodT ((ntrK Z H ls ls.length).getD i []) b t = true ↔ ∀ y (hy : y < b.length), nrQ Z H (ls.getD i []) (ls.getD y []) = true → b[y] ≠ (t : Int) := by
  unfold goodT
  rw [Bool.not_eq_true', List.any_eq_false]
  constructor
  · intro h y hy hn e
    have := h (y : Int) ((ntr_mem hi).2 ⟨y, by omega, hn, rfl⟩)
    rw [Int.toNat_natCast, List.getD_eq_getElem?_getD, List.getElem?_eq_getElem hy] at this
    simp only [Option.getD_some, decide_eq_true_eq] at this
    exact this e
  · intro h k hk
    obtain ⟨y, h1, h2, rfl⟩ := (ntr_mem hi).1 hk
    rw [Int.toNat_natCast, List.getD_eq_getElem?_getD, List.getElem?_eq_getElem (by omega)]
    simp only [Option.getD_some, decide_eq_true_eq]
    exact h y (by omega) h2
theorem col_from {c : Nat → Int} {V : List Int} (hV : ∀ i, i < ls.length → c i ∈ V) (hc : ∀ i j, i < ls.length → j < i → nrQ Z H (ls.getD i []) (ls.getD j []) = true → c i ≠ c j) :
    ∀ (d : Nat) (b : List Int) (u : Nat) (g : Nat → Int), Canon b u → b.length + d = ls.length → (∀ s t, s < u → t < u → g s = g t → s = t) → (∀ t, t < u → g t ∈ V) → (∀ i (hi : i < b.length), c i = g b[i].toNat) →
    ∃ r ∈ colQ (ntrK Z H ls ls.length) d b u, r.2 ≤ V.length
  | 0, b, u, g, hC, hl, hg, hgV, hb => by
    refine ⟨(b, u), by simp [colQ], ?_⟩
    have hnd : ((List.range u).map g).Nodup := by
      rw [List.Nodup, List.pairwise_map]
      have := List.nodup_range (n := u)
      rw [List.Nodup] at this
      exact List.Pairwise.imp_of_mem (fun {x y} hx hy hn e => hn (hg x y (List.mem_range.1 hx) (List.mem_range.1 hy) e)) this
    have := sub_lenG hnd (L := V) fun x hx => by
      obtain ⟨t, ht, rfl⟩ := List.mem_map.1 hx
      exact hgV t (List.mem_range.1 ht)
    rwa [List.length_map, List.length_range] at this
  | d + 1, b, u, g, hC, hl, hg, hgV, hb => by
    have hi : b.length < ls.length := by omega
    have main : ∀ (t : Nat) (g' : Nat → Int), t ≤ u → (∀ s, s < u → g' s = g s) → g' t = c b.length → (∀ s t', s < max u (t + 1) → t' < max u (t + 1) → g' s = g' t' → s = t') → (∀ y (hy : y < b.length), nrQ Z H (ls.getD b.length []) (ls.getD y []) = true → b[y] ≠ (t : Int)) → ∃ r ∈ colQ (ntrK Z H ls ls.length) (d + 1) b u, r.2 ≤ V.length := fun t g' ht h1 h2 h3 h4 => by
      have hgood := (good_iff hi rfl).2 h4
      obtain ⟨r, hr, hr2⟩ := col_from hV hc d (b ++ [(t : Int)]) (max u (t + 1)) g' (hC.snoc ht) (by rw [List.length_append]; simp; omega) h3 (fun s hs => by
        by_cases e : s < u
        · rw [h1 s e]; exact hgV s e
        · have : s = t := by omega
          rw [this, h2]; exact hV _ hi) (fun i hi2 => by
        rw [List.length_append] at hi2
        simp at hi2
        by_cases e : i < b.length
        · rw [List.getElem_append_left e, hb i e]
          have := hC.lt _ (List.getElem_mem e)
          rw [h1 _ (by omega)]
        · have : i = b.length := by omega
          subst this
          rw [List.getElem_append_right (Nat.le_refl _)]
          simp [h2])
      refine ⟨r, ?_, hr2⟩
      rw [colQ_succ]
      exact List.mem_flatMap.2 ⟨t, List.mem_range.2 (by omega), by unfold colR; rw [hgood]; exact hr⟩
    by_cases hex : ∃ t, t < u ∧ g t = c b.length
    · obtain ⟨t, ht, e⟩ := hex
      refine main t g (by omega) (fun _ _ => J) e (by rw [Nat.max_eq_left (by omega)]; exact hg) fun y hy hn k => ?_
      have h5 := hc b.length y hi (by omega) hn
      rw [hb y hy, k, Int.toNat_natCast, e] at h5
      exact h5 rfl
    · refine main u (fun s => if s = u then c b.length else g s) (Nat.le_refl _) (fun s hs => if_neg (by omega)) (if_pos J) ?_ fun y hy _ k => ?_
      · intro s t' hs ht' e
        have hs : s < u + 1 := by omega
        have ht' : t' < u + 1 := by omega
        have e : (if s = u then c b.length else g s) = if t' = u then c b.length else g t' := e
        by_cases k1 : s = u
        · by_cases k2 : t' = u
          · omega
          · rw [if_pos k1, if_neg k2] at e
            exact absurd ⟨t', by omega, e.symm⟩ hex
        · by_cases k2 : t' = u
          · rw [if_neg k1, if_pos k2] at e
            exact absurd ⟨s, by omega, e⟩ hex
          · rw [if_neg k1, if_neg k2] at e
            exact hg s t' (by omega) (by omega) e
      · have := hC.lt _ (List.getElem_mem hy)
        omega
theorem colQ_prop : ∀ (d : Nat) (b : List Int) (u : Nat), b.length + d = ls.length → (∀ i j (hi : i < b.length) (hj : j < i), nrQ Z H (ls.getD i []) (ls.getD j []) = true → b[j] ≠ b[i]) → ∀ r ∈ colQ (ntrK Z H ls ls.length) d b u, ∀ i j (hi : i < r.1.length) (hj : j < i), nrQ Z H (ls.getD i []) (ls.getD j []) = true → r.1[j] ≠ r.1[i]
  | 0, b, u, hl, hb, r, hr => by
    rw [List.mem_singleton.1 hr]; exact hb
  | d + 1, b, u, hl, hb, r, hr => by
    rw [colQ_succ] at hr
    obtain ⟨t, _, hr⟩ := List.mem_flatMap.1 hr
    unfold colR at hr
    cases hg : goodT ((ntrK Z H ls ls.length).getD b.length []) b t with
    | false => rw [hg] at hr; exact absurd hr List.not_mem_nil
    | true =>
      rw [hg] at hr
      have hg2 := (good_iff (show b.length < ls.length by omega) rfl).1 hg
      refine colQ_prop d _ _ (by rw [List.length_append]; simp; omega) (fun i j hi hj hn => ?_) r hr
      rw [List.length_append] at hi
      simp at hi
      by_cases e : i < b.length
      · rw [List.getElem_append_left e, List.getElem_append_left (by omega)]; exact hb i j e hj hn
      · have : i = b.length := by omega
        subst this
        rw [List.getElem_append_left hj, List.getElem_append_right (Nat.le_refl _)]
        simpa using hg2 j hj hn
theorem dif_list : ∀ (k : Nat) (t : List Int), t.length = k → ∃ V : List Int, (∀ x ∈ t, x ∈ V) ∧ V.length ≤ difQ t
  | 0, t, h => by
    rw [List.eq_nil_of_length_eq_zero h]; exact ⟨[], by simp, by simp⟩
  | k + 1, t, h => by
    obtain ⟨t', x, rfl⟩ : ∃ t' x, t = t' ++ [x] := ⟨t.dropLast, t.getLast (by intro e; rw [e] at h; simp at h), (List.dropLast_concat_getLast _).symm⟩
    obtain ⟨V, h1, h2⟩ := dif_list k t' (by rw [List.length_append] at h; simpa using h)
    rw [difQ_snoc]
    by_cases hx : x ∈ t'
    · refine ⟨V, fun y hy => ?_, by rw [if_pos hx]; omega⟩
      rcases List.mem_append.1 hy with k | k
      · exact h1 y k
      · rw [List.mem_singleton] at k; rw [k]; exact h1 x hx
    · refine ⟨x :: V, fun y hy => ?_, by rw [if_neg hx, List.length_cons]; omega⟩
      rcases List.mem_append.1 hy with k | k
      · exact List.mem_cons_of_mem _ (h1 y k)
      · rw [List.mem_singleton] at k; rw [k]; exact List.mem_cons_self
theorem tin_0 : tinQ ([] : List (List Int)) = [] := by decide
theorem tin_facts (hc : chkS ⟨H, Z, ls⟩ = 0) : chtE ⟨H, Z, ls⟩ (tinQ (ntrK Z H ls ls.length)) = 0 ∧ chtR ⟨H, Z, ls⟩ (tinQ (ntrK Z H ls ls.length)) = (difQ (tinQ (ntrK Z H ls ls.length)) : Nat) ∧ difQ (tinQ (ntrK Z H ls ls.length)) ≤ ls.length ∧
    ∀ (c : Nat → Int) (V : List Int), (∀ i, i < ls.length → c i ∈ V) → (∀ i j, i < ls.length → j < i → nrQ Z H (ls.getD i []) (ls.getD j []) = true → c i ≠ c j) → difQ (tinQ (ntrK Z H ls ls.length)) ≤ V.length := by
  by_cases h0 : ls.length = 0
  · have e : tinQ (ntrK Z H ls ls.length) = [] := by
      have : ntrK Z H ls ls.length = [] := List.eq_nil_of_length_eq_zero (by rw [ntrK_len]; exact h0)
      rw [this]; exact tin_0
    rw [e]
    obtain ⟨k1, k2⟩ := chtE_0 (t := []) hc (by simp; omega) (by rfl) (cfl_false (by simp; omega) fun i k hi hk => by omega)
    exact ⟨k1, k2, by show 0 ≤ _; omega, fun c V _ _ => by show 0 ≤ _; omega⟩
  · have hok := ntr_ok (Z := Z) (H := H) (n := ls.length) (ls := ls)
    obtain ⟨r, h1, h2, _, h4, h5, h6⟩ := tin_best hok (by rw [ntrK_len]; omega)
    rw [ntrK_len] at h1 h4 h5
    rw [h2, h6.df]
    have hle := h6.le
    have hprop := colQ_prop ls.length [] 0 (by simp) (fun i j hi => absurd hi (by simp)) r h1
    obtain ⟨k1, k2⟩ := chtE_0 (t := r.1) hc h5 (by
      unfold inL
      rw [List.all_eq_true]
      intro x hx
      have := h6.lt x hx
      rw [Bool.and_eq_true, decide_eq_true_eq, decide_eq_true_eq]; omega) (cfl_false h5 fun i k hi hk hh => by
      have e1 : ls.getD i [] = ls[i] := by rw [List.getD_eq_getElem?_getD, List.getElem?_eq_getElem hi]; rfl
      have e2 : ls.getD k [] = ls[k] := by rw [List.getD_eq_getElem?_getD, List.getElem?_eq_getElem (by omega)]; rfl
      exact hprop i k (by omega) hk (by rw [e1, e2]; exact hh.2) hh.1.symm)
    rw [h6.df] at k2
    refine ⟨k1, k2, by omega, fun c V hV hc2 => ?_⟩
    obtain ⟨s, hs, hs2⟩ := col_from hV hc2 ls.length [] 0 (fun _ => 0) Canon.nil (by simp) (fun s t hs => absurd hs (by omega)) (fun t ht => absurd ht (by omega)) (fun i hi => absurd hi (by simp))
    exact Nat.le_trans (h4 s hs) hs2
theorem tin_min (hc : chkS ⟨H, Z, ls⟩ = 0) {t : List Int} (h : chtE ⟨H, Z, ls⟩ t = 0) : difQ (tinQ (ntrK Z H ls ls.length)) ≤ difQ t := by
  have hl : t.length = ls.length := by
    refine Classical.byContradiction fun hc2 => ?_
    rw [(chtE_15 hc hc2).1] at h; exact absurd h (by decide)
  have hin : inL 0 ((ls.length : Int) - 1) t = true := by
    cases e : inL 0 ((ls.length : Int) - 1) t with
    | true => rfl
    | false => rw [(chtE_3 hc hl e).1] at h; exact absurd h (by decide)
  have hcf : cfl Z H ls t = false := by
    cases e : cfl Z H ls t with
    | false => rfl
    | true => rw [(chtE_19 hc hl hin e).1] at h; exact absurd h (by decide)
  obtain ⟨V, h1, h2⟩ := dif_list _ t rfl
  refine Nat.le_trans ((tin_facts hc).2.2.2 (fun i => t.getD i 0) V (fun i hi => ?_) fun i j hi hj hn e => ?_) h2
  · show t.getD i 0 ∈ V
    rw [List.getD_eq_getElem?_getD, List.getElem?_eq_getElem (by omega)]
    exact h1 _ (List.getElem_mem _)
  · have : cfl Z H ls t = true := List.any_eq_true.2 ⟨i, List.mem_range.2 hi, List.any_eq_true.2 ⟨j, List.mem_range.2 hj, by rw [Bool.and_eq_true, decide_eq_true_eq]; exact ⟨e, hn⟩⟩⟩
    rw [hcf] at this; cases this
theorem cht_own (hc : chkS ⟨H, Z, ls⟩ = 0) {t : List Int} (hl : t.length = ls.length) (hin : ∀ x ∈ t, 0 ≤ x ∧ x < (ls.length : Int)) : chtE ⟨H, Z, ls⟩ t = 19 ∨ (chtE ⟨H, Z, ls⟩ t = 0 ∧ ((difQ (tinQ (ntrK Z H ls ls.length)) : Nat) : Int) ≤ chtR ⟨H, Z, ls⟩ t) := by
  have hi : inL 0 ((ls.length : Int) - 1) t = true := by
    unfold inL
    rw [List.all_eq_true]
    intro x hx
    have := hin x hx
    rw [Bool.and_eq_true, decide_eq_true_eq, decide_eq_true_eq]; omega
  cases e : cfl Z H ls t with
  | true => exact .inl (chtE_19 hc hl hi e).1
  | false =>
    obtain ⟨k1, k2⟩ := chtE_0 hc hl hi e
    refine .inr ⟨k1, ?_⟩
    rw [k2]
    exact Int.ofNat_le.2 (tin_min hc k1)
theorem tin_four (hc : chkS ⟨H, Z, ls⟩ = 0) (hH : 1 ≤ H) (hn : ls.length ≤ 10) (hd : Dis Z H ls) (hp : ∀ i, i < ls.length → pieQ Z H (ls.getD i []) ≤ 1) : difQ (tinQ (ntrK Z H ls ls.length)) ≤ 4 := by
  obtain ⟨c, c1, c2⟩ := sky_four hH hn hd hp
  exact (tin_facts hc).2.2.2 (fun i => (c i : Int)) [0, 1, 2, 3] (fun i _ => by
    have := c1 i
    show (c i : Int) ∈ _
    simp; omega) fun i j hi hj hn e => c2 i j hi (by omega) (by omega) hn (by
      have e : (c i : Int) = (c j : Int) := e
      omega)
theorem dis_of (h : ∀ p : Pl2, p.1 < Z ∧ p.2 < H → (ofQ ls H p.1 p.2 ls.length).length ≤ 1) : Dis Z H ls := fun p hp i j hi hj h1 h2 => by
  have hl := h p hp
  unfold ofQ at hl
  rw [List.length_map] at hl
  have m1 : i ∈ (List.range ls.length).filter fun i => inL' (ls.getD i []) H p.1 p.2 := List.mem_filter.2 ⟨List.mem_range.2 hi, h1⟩
  have m2 : j ∈ (List.range ls.length).filter fun i => inL' (ls.getD i []) H p.1 p.2 := List.mem_filter.2 ⟨List.mem_range.2 hj, h2⟩
  generalize (List.range ls.length).filter (fun i => inL' (ls.getD i []) H p.1 p.2) = l at *
  cases l with
  | nil => cases m1
  | cons a l =>
    cases l with
    | nil => rw [List.mem_singleton] at m1 m2; rw [m1, m2]
    | cons b l => simp at hl
end
end Go.Proofs.Ythlolelbmhfdbaa
end

section
namespace Go.Proofs.Ythlolelbmhfdbaa
set_option maxRecDepth 20000
open Go.AE
abbrev b8 (n : Nat) : AV := .int .u8 (n : Nat)
abbrev bytesA (l : List Nat) (c : Option Nat) : AV := .ros (l.map b8) l.length c
def ownK (n : Nat) (l : List Nat) (i : Nat) : List Int := (List.range i).map fun k => ((if 0 < l.length then l.getD (k % l.length) 0 % n else 0 : Nat) : Int)
theorem own_len {n i : Nat} {l : List Nat} : (ownK n l i).length = i := by simp [ownK]
theorem own_T {n i : Nat} {l : List Nat} (h : 0 < l.length) (hk : i % l.length < l.length) : ownK n l i ++ [((l[i % l.length] % n : Nat) : Int)] = ownK n l (i + 1) := by
  have e : l.getD (i % l.length) 0 = l[i % l.length] := by rw [List.getD_eq_getElem?_getD, List.getElem?_eq_getElem hk]; rfl
  unfold ownK
  rw [List.range_succ, List.map_append, List.map_cons, List.map_nil, if_pos h, e]
theorem own_F {n i : Nat} {l : List Nat} (h : ¬ 0 < l.length) : ownK n l i ++ [0] = ownK n l (i + 1) := by
  unfold ownK
  rw [List.range_succ, List.map_append, List.map_cons, List.map_nil, if_neg h]; rfl
theorem own_in {n i : Nat} {l : List Nat} (hi : i ≤ n) : ∀ x ∈ ownK n l i, 0 ≤ x ∧ x < (n : Int) := fun x hx => by
  obtain ⟨k, hk, rfl⟩ := List.mem_map.1 hx
  have hk := List.mem_range.1 hk
  split
  · have := Nat.mod_lt (l.getD (k % l.length) 0) (show 0 < n by omega)
    omega
  · omega
theorem borderFourF_p (s : Sk) (c : Option Nat) (hf : (!grt s && decide (chkS s = 0)) = false) (l : List Nat) (d : Option Nat) (hlb8 : ∀ x ∈ l, x < 256) : Pure Try.prog 9 [.agg [i64 s.h, i64 s.z, landsA s.ls c], bytesA l d] (.bool true) := by
  refine pure_of_body Try.func9 (c := body Try.f9) J (by simp [Try.ntmps9]) fun w0 Φ0 => ?_
  refine Wsr J J ?_
  refine Rv J J J (U_boxF J J J) J J ?_
  refine Rv J J J (U_assign J) J J ?_
  refine Rt J ?_
  refine W_seq J ?_
  refine Wsr J J ?_
  refine Rv J J J (U_load3 J J J J J) J J ?_
  refine Rv J J J (U_call J J (fineF_p s c hf) J) J J ?_
  refine Rv J J J (U_not J) J J ?_
  refine Rv J J J (U_move J) J J ?_
  refine Rs J J J J J ?_
  refine Rs J J J J J ?_
  refine Rs J J J J J ?_
  refine Rv J J J (U_pick_t J J) J J ?_
  refine Rt J ?_
  refine Wcond J J (fun _ => ?_) (fun h => nomatch h)
  refine Wsr J J ?_
  refine Rv J J J (U_call J J (works_p) J) J J ?_
  refine Rv J J J (U_assign J) J J ?_
  refine Rt J ?_
  refine W_ret J ?_
  refine thenQ_r ?_
  exact retL (rlT J rl0) J J
theorem borderFourB_p (H Z : Nat) (ls : List (List Bx)) (c : Option Nat) (hc : chkS ⟨H, Z, ls⟩ = 0) (hv : VS ⟨H, Z, ls⟩ H Z) (hg : grt ⟨H, Z, ls⟩ = false) (l : List Nat) (d : Option Nat) (hlb8 : ∀ x ∈ l, x < 256) (hl20 : ¬ l.length ≤ 20) : Pure Try.prog 9 [.agg [i64 (H : Nat), i64 (Z : Nat), landsA ls c], bytesA l d] (.bool true) := by
  have hv' := hv
  obtain ⟨_, _, hH, hZ1, hln, hlb, hbx⟩ := hv'
  simp only at hln hlb hbx
  have hZ := hZ1.2
  have hHZ : Z * H ≤ 1152 := Nat.mul_le_mul hZ hH.2
  have hHZc : H * Z = Z * H := Nat.mul_comm _ _
  refine pure_of_body Try.func9 (c := body Try.f9) J (by simp [Try.ntmps9]) fun w0 Φ0 => ?_
  refine Wsr J J ?_
  refine Rv J J J (U_boxF J J J) J J ?_
  refine Rv J J J (U_assign J) J J ?_
  refine Rt J ?_
  refine W_seq J ?_
  refine Wsr J J ?_
  refine Rv J J J (U_load3 J J J J J) J J ?_
  refine Rv J J J (U_call J J (fineT_p H Z ls c hg hc) J) J J ?_
  refine Rv J J J (U_not J) J J ?_
  refine Rv J J J (U_move J) J J ?_
  refine Rv J J J (U_move J) J J ?_
  refine Rv J J J (U_lenOf J len_ros) J J ?_
  refine Rv J J J (OpU.toB (U_gtr J J) (decide_eq_true (by omega))) J J ?_
  refine Rv J J J (U_pick_f J J) J J ?_
  refine Rt J ?_
  refine Wcond J J (fun _ => ?_) (fun h => nomatch h)
  refine Wsr J J ?_
  refine Rv J J J (U_call J J (works_p) J) J J ?_
  refine Rv J J J (U_assign J) J J ?_
  refine Rt J ?_
  refine W_ret J ?_
  refine thenQ_r ?_
  exact retL (rlT J rl0) J J
theorem borderFourD_p (H Z : Nat) (ls : List (List Bx)) (c : Option Nat) (hc : chkS ⟨H, Z, ls⟩ = 0) (hv : VS ⟨H, Z, ls⟩ H Z) (hg : grt ⟨H, Z, ls⟩ = false) (l : List Nat) (d : Option Nat) (hlb8 : ∀ x ∈ l, x < 256) (hl20 : l.length ≤ 20) (q : List Int) (m : Nat) (v e : Int) (hmn : m ≤ ls.length) (he : e = 19 ∨ (e = 0 ∧ (m : Int) ≤ v)) (h4 : (∀ k, k < ls.length → pieQ Z H (ls.getD k []) ≤ 1) → (∀ k, k < H * Z → (ofQ ls H (k / H) (k % H) ls.length).length ≤ 1) → m ≤ 4) (h37 : Pure Try.prog 37 [.agg [i64 (H : Nat), i64 (Z : Nat), landsA ls c]] (.tup [intsA q none, i64 0])) (h35 : Pure Try.prog 35 [.agg [i64 (H : Nat), i64 (Z : Nat), landsA ls c], intsA q none] (.tup [i64 (m : Nat), i64 0])) (h36 : Pure Try.prog 36 [.agg [i64 (H : Nat), i64 (Z : Nat), landsA ls c], intsA q none] (.tup [i64 (m : Nat), i64 0])) (h35o : Pure Try.prog 35 [.agg [i64 (H : Nat), i64 (Z : Nat), landsA ls c], intsA (ownK ls.length l ls.length) none] (.tup [i64 v, i64 e])) : Pure Try.prog 9 [.agg [i64 (H : Nat), i64 (Z : Nat), landsA ls c], bytesA l d] (.bool true) := by
  have hv' := hv
  obtain ⟨_, _, hH, hZ1, hln, hlb, hbx⟩ := hv'
  simp only at hln hlb hbx
  have hZ := hZ1.2
  have hHZ : Z * H ≤ 1152 := Nat.mul_le_mul hZ hH.2
  have hHZc : H * Z = Z * H := Nat.mul_comm _ _
  refine pure_of_body Try.func9 (c := body Try.f9) J (by simp [Try.ntmps9]) fun w0 Φ0 => ?_
  refine Wsr J J ?_
  refine Rv J J J (U_boxF J J J) J J ?_
  refine Rv J J J (U_assign J) J J ?_
  refine Rt J ?_
  refine W_seq J ?_
  refine Wsr J J ?_
  refine Rv J J J (U_load3 J J J J J) J J ?_
  refine Rv J J J (U_call J J (fineT_p H Z ls c hg hc) J) J J ?_
  refine Rv J J J (U_not J) J J ?_
  refine Rv J J J (U_move J) J J ?_
  refine Rv J J J (U_move J) J J ?_
  refine Rv J J J (U_lenOf J len_ros) J J ?_
  refine Rv J J J (OpU.toB (U_gtr J J) (decide_eq_false (by omega))) J J ?_
  refine Rv J J J (U_pick_f J J) J J ?_
  refine Rt J ?_
  refine Wcond J J (fun h => nomatch h) (fun _ => ?_)
  refine W_skip J ?_
  refine thenQ_n ?_
  refine Wsr J J ?_
  refine Rv J J J (U_fieldAddrR J) J J ?_
  refine Rv J J J (U_load1 J J J) J J ?_
  refine Rv J J J (U_lenOf J len_ros) J J ?_
  refine Rv J J J (U_assign J) J J ?_
  refine Rt J ?_
  refine Wsr J J ?_
  refine Rv J J J (U_load3 J J J J J) J J ?_
  refine Rv J J J (U_call J J (h37) J) J J ?_
  refine Rv J J J (U_move J) J J ?_
  refine Rv J J J (U_extract J J) J J ?_
  refine Rv J J J (U_extract J J) J J ?_
  refine Rv J J J (U_assign J) J J ?_
  refine Rv J J J (U_assign J) J J ?_
  refine Rt J ?_
  refine Wsr J J ?_
  refine Rv J J J (U_load3 J J J J J) J J ?_
  refine Rv J J J (U_move J) J J ?_
  refine Rv J J J (U_call J J (h35) J) J J ?_
  refine Rv J J J (U_move J) J J ?_
  refine Rv J J J (U_extract J J) J J ?_
  refine Rv J J J (U_extract J J) J J ?_
  refine Rv J J J (U_assign J) J J ?_
  refine Rv J J J (U_assign J) J J ?_
  refine Rt J ?_
  refine Wsr J J ?_
  refine Rv J J J (U_load3 J J J J J) J J ?_
  refine Rv J J J (U_move J) J J ?_
  refine Rv J J J (U_call J J (h36) J) J J ?_
  refine Rv J J J (U_move J) J J ?_
  refine Rv J J J (U_extract J J) J J ?_
  refine Rv J J J (U_extract J J) J J ?_
  refine Rv J J J (U_assign J) J J ?_
  refine Rv J J J (U_assign J) J J ?_
  refine Rt J ?_
  refine W_seq J ?_
  refine Wsr J J ?_
  refine Rv J J J (U_move J) J J ?_
  refine Rv J J J (U_neq J J) J J ?_
  refine Rv J J J (U_move J) J J ?_
  refine Rv J J J (U_move J) J J ?_
  refine Rv J J J (U_neq J J) J J ?_
  refine Rv J J J (U_pick_f J J) J J ?_
  refine Rv J J J (U_move J) J J ?_
  refine Rv J J J (U_move J) J J ?_
  refine Rv J J J (U_neq J J) J J ?_
  refine Rv J J J (U_pick_f J J) J J ?_
  refine Rv J J J (U_move J) J J ?_
  refine Rv J J J (U_move J) J J ?_
  refine Rv J J J (U_move J) J J ?_
  refine Rv J J J (U_neqS J J) J J ?_
  refine Rv J J J (U_pick_f J J) J J ?_
  refine Rv J J J (U_move J) J J ?_
  refine Rv J J J (U_move J) J J ?_
  refine Rv J J J (U_move J) J J ?_
  refine Rv J J J (OpU.toB (U_gtr J J) (decide_eq_false (by omega))) J J ?_
  refine Rv J J J (U_pick_f J J) J J ?_
  refine Rt J ?_
  refine Wcond J J (fun h => nomatch h) (fun _ => ?_)
  refine W_skip J ?_
  refine thenQ_n ?_
  refine Wsr J J ?_
  refine Rv J J J (U_assign J) J J ?_
  refine Rt J ?_
  refine W_seq J ?_
  refine Wsr J J ?_
  refine Rv J J J (U_assign J) J J ?_
  refine Rt J ?_
  refine W_block J ?_
  refine LoopTo (T' := [(1, .ros (l.map b8) l.length d), (2, .rop [i64 ((H : Nat) : Int), i64 ((Z : Nat) : Int), .ros (ls.map boxesL) ls.length c] 0), (5, i64 ((ls.length : Nat) : Int)), (8, i64 ((m : Nat) : Int)), (12, .out 0 [].length 1), (13, i64 ((0 : Nat) : Int))]) (H' := [(0, outB ([].map i64) 3 [].length)]) (n := 1) J (fun mz_ qz_ => ∃ (i : Nat) (W : List Int), i ≤ ls.length ∧ W = ownK ls.length l i ∧ mz_ = ls.length - i ∧ qz_ = ⟨[(1, .ros (l.map b8) l.length d), (2, .rop [i64 ((H : Nat) : Int), i64 ((Z : Nat) : Int), .ros (ls.map boxesL) ls.length c] 0), (5, i64 ((ls.length : Nat) : Int)), (8, i64 ((m : Nat) : Int)), (12, .out 0 W.length 1), (13, i64 ((i : Nat) : Int))], [(0, outB (W.map i64) 3 W.length)], 1, []⟩) ⟨0, [], (by omega), J, J, J⟩ id ⟨eD J J, eD J J, eD J J, eD J J, eW J le_nils_out J, eD J J, trivial⟩ ⟨rO0 J, trivial⟩ J J J J (fun _ _ => J) ?_
  rintro _ _ ⟨i, W, hi0_0, hi0_1, rfl, rfl⟩
  have hWl : W.length = i := by rw [hi0_1, own_len]
  refine W_seq J ?_
  refine Wsr J J ?_
  refine Rv J J J (U_move J) J J ?_
  refine Rv J J J (U_move J) J J ?_
  refine Rv J J J (U_lss J J) J J ?_
  refine Rt J ?_
  refine WcondP J J (fun hc2 => ?_) (fun hc2 => ?_)
  · have hin : i < ls.length := by omega
    refine W_skip J ?_
    refine thenQ_n ?_
    refine W_seq J ?_
    refine W_block J ?_
    refine Wsr J J ?_
    refine Rv J J J (U_assign J) J J ?_
    refine Rt J ?_
    refine W_seq J ?_
    refine Wsr J J ?_
    refine Rv J J J (U_move J) J J ?_
    refine Rv J J J (U_lenOf J len_ros) J J ?_
    refine Rv J J J (U_gtr J J) J J ?_
    refine Rt J ?_
    refine WcondP J J (fun hc3 => ?_) (fun hc3 => ?_)
    · have hl0 : 0 < l.length := by omega
      have hml : i % l.length < l.length := Nat.mod_lt _ hl0
      have hb8 := hlb8 _ (List.getElem_mem hml)
      refine W_reg J ?_
      refine Rv J J J (U_move J) J J ?_
      refine Rv J J J (U_move J) J J ?_
      refine Rv J J J (U_move J) J J ?_
      refine Rv J J J (U_lenOf J len_ros) J J ?_
      refine Rv J J J (U_rem (c := ((i % l.length : Nat) : Int)) J J (by omega) (tmodN _ _)) J J ?_
      have hx1 : (i % l.length) < l.length := by omega
      refine Rv J J J (U_indexR (j := (i % l.length)) J J J hx1) J J ?_
      refine Rv J J J (U_load1 J J (getM hx1)) J J ?_
      refine Rv J J J (U_convInt (by rfl) J (wr_i64 (by omega) (by omega))) J J ?_
      refine Rv J J J (U_move J) J J ?_
      refine Rv J J J (U_rem (c := ((l[(i % l.length)] % ls.length : Nat) : Int)) J J (by omega) (tmodN _ _)) J J ?_
      refine Rv J J J (U_assign J) J J ?_
      refine Rt J ?_
      refine W_reg J ?_
      refine Rv J J J (U_move J) J J ?_
      refine Rv J J J (U_move J) J J ?_
      refine Rv J J J (U_buildSliceF (by rfl) (by decide) J J J) J J ?_
      refine Ra J J J (U_appO (b := 0) (m := 0) (cs' := (W ++ [((l[(i % l.length)] % ls.length : Nat) : Int)]).map i64) (n' := (W ++ [((l[(i % l.length)] % ls.length : Nat) : Int)]).length) J J (by simp) J (map_len1 _) J J (by omega) (appM _ _) (len1 _ _)) J J J ?_
      refine Rv J J J (U_assign J) J J ?_
      refine Re J ?_
      refine blkQ_n ?_
      refine thenQ_n ?_
      refine W_reg J ?_
      refine Rv J J J (U_move J) J J ?_
      refine Rv J J J (U_add J J (w64e (m := ((i + 1 : Nat) : Int)) (by omega) (by omega) (by omega))) J J ?_
      refine Rv J J J (U_assign J) J J ?_
      refine Rt J ?_
      exact againTo (T' := [(1, .ros (l.map b8) l.length d), (2, .rop [i64 ((H : Nat) : Int), i64 ((Z : Nat) : Int), .ros (ls.map boxesL) ls.length c] 0), (5, i64 ((ls.length : Nat) : Int)), (8, i64 ((m : Nat) : Int)), (12, .out 0 (W ++ [((l[(i % l.length)] % ls.length : Nat) : Int)]).length 1), (13, i64 (((i + 1) : Nat) : Int))]) (H' := [(0, outB ((W ++ [((l[(i % l.length)] % ls.length : Nat) : Int)]).map i64) 3 (W ++ [((l[(i % l.length)] % ls.length : Nat) : Int)]).length)]) (n := 1) (ls.length - (i + 1)) ⟨i + 1, W ++ [((l[(i % l.length)] % ls.length : Nat) : Int)], (by omega), (by rw [hi0_1]; first | exact own_T (by omega) (Nat.mod_lt _ (by omega)) | exact own_F (by omega)), J, J⟩ (by omega) (mapN [1]) ⟨eD J J, eD J J, eD J J, eD J J, e_ J J, eD J J, trivial⟩ ⟨rO (mapD (fun _ => J) _) J J, trivial⟩ J J J J (fun _ h => absurd h (Nat.not_lt_zero _))
    · refine W_skip J ?_
      refine thenQ_n ?_
      refine W_reg J ?_
      refine Rv J J J (U_move J) J J ?_
      refine Rv J J J (U_move J) J J ?_
      refine Rv J J J (U_buildSliceF (by rfl) (by decide) J J J) J J ?_
      refine Ra J J J (U_appO (b := 0) (m := 0) (cs' := (W ++ [0]).map i64) (n' := (W ++ [0]).length) J J (by simp) J (map_len1 _) J J (by omega) (appM _ _) (len1 _ _)) J J J ?_
      refine Rv J J J (U_assign J) J J ?_
      refine Re J ?_
      refine blkQ_n ?_
      refine thenQ_n ?_
      refine W_reg J ?_
      refine Rv J J J (U_move J) J J ?_
      refine Rv J J J (U_add J J (w64e (m := ((i + 1 : Nat) : Int)) (by omega) (by omega) (by omega))) J J ?_
      refine Rv J J J (U_assign J) J J ?_
      refine Rt J ?_
      exact againTo (T' := [(1, .ros (l.map b8) l.length d), (2, .rop [i64 ((H : Nat) : Int), i64 ((Z : Nat) : Int), .ros (ls.map boxesL) ls.length c] 0), (5, i64 ((ls.length : Nat) : Int)), (8, i64 ((m : Nat) : Int)), (12, .out 0 (W ++ [0]).length 1), (13, i64 (((i + 1) : Nat) : Int))]) (H' := [(0, outB ((W ++ [0]).map i64) 3 (W ++ [0]).length)]) (n := 1) (ls.length - (i + 1)) ⟨i + 1, W ++ [0], (by omega), (by rw [hi0_1]; first | exact own_T (by omega) (Nat.mod_lt _ (by omega)) | exact own_F (by omega)), J, J⟩ (by omega) (mapN [1]) ⟨eD J J, eD J J, eD J J, eD J J, e_ J J, eD J J, trivial⟩ ⟨rO (mapD (fun _ => J) _) J J, trivial⟩ J J J J (fun _ h => absurd h (Nat.not_lt_zero _))
  · have hWW : W = ownK ls.length l ls.length := by rw [hi0_1, show i = ls.length by omega]
    refine W_exit J ?_
    refine thenQ_x ?_
    refine thenQ_x ?_
    refine blkQ_x J ?_
    refine thenQ_n ?_
    refine W_seq J ?_
    refine WfrO 0 (W.map i64) J (mapD (fun _ => J) _) (T' := [(2, .rop [i64 ((H : Nat) : Int), i64 ((Z : Nat) : Int), .ros (ls.map boxesL) ls.length c] 0), (5, i64 ((ls.length : Nat) : Int)), (8, i64 ((m : Nat) : Int)), (12, .ros (W.map i64) W.length none)]) (H' := []) ⟨fD J J, fD J J, fD J J, fO J, trivial⟩ trivial ?_
    refine W_reg J ?_
    refine Rv J J J (U_load3 J J J J J) J J ?_
    refine Rv J J J (U_move J) J J ?_
    refine Rv J J J (U_call J J (by rw [hWW]; exact h35o) J) J J ?_
    refine Rv J J J (U_move J) J J ?_
    refine Rv J J J (U_extract J J) J J ?_
    refine Rv J J J (U_extract J J) J J ?_
    refine Rv J J J (U_assign J) J J ?_
    refine Rv J J J (U_assign J) J J ?_
    refine Rt J ?_
    refine W_seq J ?_
    refine W_seq J ?_
    refine Wjoin ⟨[(2, .rop [i64 ((H : Nat) : Int), i64 ((Z : Nat) : Int), .ros (ls.map boxesL) ls.length c] 0), (5, i64 ((ls.length : Nat) : Int)), (8, i64 ((m : Nat) : Int)), (113, .bool (bif (decide (e ≠ 0)) then ((decide (e ≠ 19)) || ((decide (e = 0)) && (decide (v < ((m : Nat) : Int))))) else ((decide (e = 0)) && (decide (v < ((m : Nat) : Int))))))], [], 0, []⟩ ?_ ?_
    · refine W_reg J ?_
      refine Rv J J J (U_move J) J J ?_
      refine Rv J J J (U_neq J J) J J ?_
      refine Rv J J J (U_move J) J J ?_
      refine Rsplit (t := 101) J (fun hg2 => ?_) (fun hg2 => ?_)
      · rw [hg2]
        have hg2' : e ≠ 0 := of_decide_eq_true hg2
        refine Rv J J J (U_move J) J J ?_
        refine Rv J J J (U_neq J J) J J ?_
        refine Rv J J J (U_pick_t J J) J J ?_
        refine Rv J J J (U_move J) J J ?_
        refine Rsplit (t := 105) J (fun hg3 => ?_) (fun hg3 => ?_)
        · rw [hg3]
          have hg3' : e ≠ 19 := of_decide_eq_true hg3
          refine Rs J J J J J ?_
          refine Rs J J J J J ?_
          refine Rs J J J J J ?_
          refine Rs J J J J J ?_
          refine Rs J J J J J ?_
          refine Rs J J J J J ?_
          refine Rs J J J J J ?_
          refine Rv J J J (U_pick_t J J) J J ?_
          refine Re J ?_
          exact joinTo id ⟨eD J J, eD J J, eD J J, eD J J, trivial⟩ trivial J J J J (fun _ _ => J)
        · rw [hg3]
          have hg3' : ¬ (e ≠ 19) := of_decide_eq_false hg3
          refine Rv J J J (U_move J) J J ?_
          refine Rv J J J (U_eql J J) J J ?_
          refine Rv J J J (U_move J) J J ?_
          refine Rsplit (t := 108) J (fun hg4 => ?_) (fun hg4 => ?_)
          · rw [hg4]
            have hg4' : e = 0 := of_decide_eq_true hg4
            refine Rv J J J (U_move J) J J ?_
            refine Rv J J J (U_move J) J J ?_
            refine Rv J J J (U_lss J J) J J ?_
            refine Rv J J J (U_pick_t J J) J J ?_
            refine Rv J J J (U_pick_f J J) J J ?_
            refine Re J ?_
            exact joinTo id ⟨eD J J, eD J J, eD J J, eD J J, trivial⟩ trivial J J J J (fun _ _ => J)
          · rw [hg4]
            have hg4' : ¬ (e = 0) := of_decide_eq_false hg4
            refine Rs J J J J J ?_
            refine Rs J J J J J ?_
            refine Rs J J J J J ?_
            refine Rv J J J (U_pick_f J J) J J ?_
            refine Rv J J J (U_pick_f J J) J J ?_
            refine Re J ?_
            exact joinTo id ⟨eD J J, eD J J, eD J J, eD J J, trivial⟩ trivial J J J J (fun _ _ => J)
      · rw [hg2]
        have hg2' : ¬ (e ≠ 0) := of_decide_eq_false hg2
        refine Rs J J J J J ?_
        refine Rs J J J J J ?_
        refine Rv J J J (U_pick_f J J) J J ?_
        refine Rv J J J (U_move J) J J ?_
        refine Rv J J J (U_move J) J J ?_
        refine Rv J J J (U_eql J J) J J ?_
        refine Rv J J J (U_move J) J J ?_
        refine Rsplit (t := 108) J (fun hg5 => ?_) (fun hg5 => ?_)
        · rw [hg5]
          have hg5' : e = 0 := of_decide_eq_true hg5
          refine Rv J J J (U_move J) J J ?_
          refine Rv J J J (U_move J) J J ?_
          refine Rv J J J (U_lss J J) J J ?_
          refine Rv J J J (U_pick_t J J) J J ?_
          refine Rv J J J (U_pick_f J J) J J ?_
          refine Re J ?_
          exact joinTo id ⟨eD J J, eD J J, eD J J, eD J J, trivial⟩ trivial J J J J (fun _ _ => J)
        · rw [hg5]
          have hg5' : ¬ (e = 0) := of_decide_eq_false hg5
          refine Rs J J J J J ?_
          refine Rs J J J J J ?_
          refine Rs J J J J J ?_
          refine Rv J J J (U_pick_f J J) J J ?_
          refine Rv J J J (U_pick_f J J) J J ?_
          refine Re J ?_
          exact joinTo id ⟨eD J J, eD J J, eD J J, eD J J, trivial⟩ trivial J J J J (fun _ _ => J)
    refine thenQ_n ?_
    refine Wcond J J (fun hc4 => absurd hc4 (by rcases he with h | ⟨h, h2⟩ <;> rw [h] <;> simp <;> omega)) (fun hc4 => ?_)
    refine W_skip J ?_
    refine thenQ_n ?_
    refine W_seq J ?_
    refine Wsr J J ?_
    refine Rv J J J (U_assign J) J J ?_
    refine Rt J ?_
    refine W_block J ?_
    refine LoopTo (T' := [(2, .rop [i64 ((H : Nat) : Int), i64 ((Z : Nat) : Int), .ros (ls.map boxesL) ls.length c] 0), (5, i64 ((ls.length : Nat) : Int)), (8, i64 ((m : Nat) : Int)), (16, i64 ((0 : Nat) : Int))]) (H' := []) (n := 0) J (fun mz_ qz_ => ∃ (i : Nat), i ≤ ls.length ∧ (∀ k, k < i → pieQ Z H (ls.getD k []) ≤ 1) ∧ mz_ = ls.length - i ∧ qz_ = ⟨[(2, .rop [i64 ((H : Nat) : Int), i64 ((Z : Nat) : Int), .ros (ls.map boxesL) ls.length c] 0), (5, i64 ((ls.length : Nat) : Int)), (8, i64 ((m : Nat) : Int)), (16, i64 ((i : Nat) : Int))], [], 0, []⟩) ⟨0, (by omega), (fun k h => absurd h (Nat.not_lt_zero _)), J, J⟩ id ⟨eD J J, eD J J, eD J J, eD J J, trivial⟩ trivial J J J J (fun _ _ => J) ?_
    rintro _ _ ⟨i, hi1_0, hi1_1, rfl, rfl⟩
    refine W_seq J ?_
    refine Wsr J J ?_
    refine Rv J J J (U_move J) J J ?_
    refine Rv J J J (U_move J) J J ?_
    refine Rv J J J (U_lss J J) J J ?_
    refine Rt J ?_
    refine WcondP J J (fun hc5 => ?_) (fun hc5 => ?_)
    · have hin : i < ls.length := by omega
      have hgd : ls.getD i [] = ls[i] := by rw [List.getD_eq_getElem?_getD, List.getElem?_eq_getElem hin]; rfl
      refine W_skip J ?_
      refine thenQ_n ?_
      refine W_seq J ?_
      refine W_block J ?_
      refine Wsr J J ?_
      refine Rv J J J (U_load3 J J J J J) J J ?_
      refine Rv J J J (U_move J) J J ?_
      refine Rv J J J (U_call J J (pie_g H Z ls c hc hv i (by omega)) J) J J ?_
      refine Rv J J J (U_move J) J J ?_
      refine Rv J J J (U_extract J J) J J ?_
      refine Rv J J J (U_extract J J) J J ?_
      refine Rv J J J (U_assign J) J J ?_
      refine Rv J J J (U_assign J) J J ?_
      refine Rt J ?_
      refine W_seq J ?_
      refine Wsr J J ?_
      refine Rv J J J (U_move J) J J ?_
      refine Rv J J J (U_neq J J) J J ?_
      refine Rt J ?_
      refine WcondP J J (fun h => absurd h (by decide)) (fun _ => ?_)
      refine W_skip J ?_
      refine thenQ_n ?_
      refine Wsr J J ?_
      refine Rv J J J (U_move J) J J ?_
      refine Rv J J J (U_gtr J J) J J ?_
      refine Rt J ?_
      refine WcondP J J (fun hc7 => ?_) (fun hc7 => ?_)
      · refine Wsr J J ?_
        refine Rv J J J (U_call J J (works_p) J) J J ?_
        refine Rv J J J (U_assign J) J J ?_
        refine Rt J ?_
        refine W_ret J ?_
        refine blkQ_r ?_
        refine thenQ_r ?_
        refine thenQ_r ?_
        refine blkQ_r ?_
        refine thenQ_r ?_
        exact retL (rlT J rl0) J J
      · refine W_skip J ?_
        refine blkQ_n ?_
        refine thenQ_n ?_
        refine W_reg J ?_
        refine Rv J J J (U_move J) J J ?_
        refine Rv J J J (U_add J J (w64e (m := ((i + 1 : Nat) : Int)) (by omega) (by omega) (by omega))) J J ?_
        refine Rv J J J (U_assign J) J J ?_
        refine Rt J ?_
        exact againTo (T' := [(2, .rop [i64 ((H : Nat) : Int), i64 ((Z : Nat) : Int), .ros (ls.map boxesL) ls.length c] 0), (5, i64 ((ls.length : Nat) : Int)), (8, i64 ((m : Nat) : Int)), (16, i64 (((i + 1) : Nat) : Int))]) (H' := []) (n := 0) (ls.length - (i + 1)) ⟨i + 1, (by omega), (by intro k h; rcases Nat.lt_succ_iff_lt_or_eq.1 h with h | rfl; exact hi1_1 k h; rw [hgd]; omega), J, J⟩ (by omega) id ⟨eD J J, eD J J, eD J J, eD J J, trivial⟩ trivial J J J J (fun _ _ => J)
    · have hpie : ∀ k, k < ls.length → pieQ Z H (ls.getD k []) ≤ 1 := fun k h => hi1_1 k (by omega)
      refine W_exit J ?_
      refine thenQ_x ?_
      refine thenQ_x ?_
      refine blkQ_x J ?_
      refine thenQ_n ?_
      refine W_seq J ?_
      refine Wsr J J ?_
      refine Rv J J J (U_assign J) J J ?_
      refine Rt J ?_
      refine W_block J ?_
      refine LoopTo (T' := [(2, .rop [i64 ((H : Nat) : Int), i64 ((Z : Nat) : Int), .ros (ls.map boxesL) ls.length c] 0), (8, i64 ((m : Nat) : Int)), (19, i64 ((0 : Nat) : Int))]) (H' := []) (n := 0) J (fun mz_ qz_ => ∃ (p : Nat), p ≤ H * Z ∧ (∀ k, k < p → (ofQ ls H (k / H) (k % H) ls.length).length ≤ 1) ∧ mz_ = H * Z - p ∧ qz_ = ⟨[(2, .rop [i64 ((H : Nat) : Int), i64 ((Z : Nat) : Int), .ros (ls.map boxesL) ls.length c] 0), (8, i64 ((m : Nat) : Int)), (19, i64 ((p : Nat) : Int))], [], 0, []⟩) ⟨0, (by omega), (fun k h => absurd h (Nat.not_lt_zero _)), J, J⟩ id ⟨eD J J, eD J J, eD J J, trivial⟩ trivial J J J J (fun _ _ => J) ?_
      rintro _ _ ⟨p, hi2_0, hi2_1, rfl, rfl⟩
      refine W_seq J ?_
      refine Wsr J J ?_
      refine Rv J J J (U_move J) J J ?_
      refine Rv J J J (U_fieldAddrR J) J J ?_
      refine Rv J J J (U_load1 J J J) J J ?_
      refine Rv J J J (U_fieldAddrR J) J J ?_
      refine Rv J J J (U_load1 J J J) J J ?_
      refine Rv J J J (U_mul J J (w64e (m := ((H * Z : Nat) : Int)) (by omega) (by omega) (by omega))) J J ?_
      refine Rv J J J (U_lss J J) J J ?_
      refine Rt J ?_
      refine WcondP J J (fun hc8 => ?_) (fun hc8 => ?_)
      · have hpn : p < H * Z := by omega
        have hdv : p / H < Z := Nat.div_lt_of_lt_mul hpn
        have hmd : p % H < H := Nat.mod_lt _ (by omega)
        refine W_skip J ?_
        refine thenQ_n ?_
        refine W_seq J ?_
        refine W_block J ?_
        refine W_seq J ?_
        refine Wdraw J (by kernel_rfl) (by kernel_rfl) ?_
        refine Dv J J J (U_load3 J J J J J) J J ?_
        refine Dv J J J (U_move J) J J ?_
        refine Dv J J J (U_fieldAddrR J) J J ?_
        refine Dv J J J (U_load1 J J J) J J ?_
        refine Dv J J J (U_rem (c := ((p % H : Nat) : Int)) J J (by omega) (tmodN _ _)) J J ?_
        refine Dv J J J (U_move J) J J ?_
        refine Dv J J J (U_fieldAddrR J) J J ?_
        refine Dv J J J (U_load1 J J J) J J ?_
        refine Dv J J J (U_quo (c := ((p / H : Nat) : Int)) J J (by omega) (wquoN (by omega))) J J ?_
        refine Dv J J J (U_call J J (of_g H Z ls c hc hv (p % H) (p / H) (by omega) (by omega)) J) J J ?_
        refine Dv J J J (U_move J) J J ?_
        refine Dv J J J (U_extract J J) J J ?_
        refine Dv J J J (U_extract J J) J J ?_
        refine Dv J J J (U_assign J) J J ?_
        refine Dv J J J (U_assign J) J J ?_
        refine Dr.nil J ?_
        refine thenQ_n ?_
        refine W_seq J ?_
        refine Wsr J J ?_
        refine Rv J J J (U_move J) J J ?_
        refine Rv J J J (U_neq J J) J J ?_
        refine Rt J ?_
        refine WcondP J J (fun h => absurd h (by decide)) (fun _ => ?_)
        refine W_skip J ?_
        refine thenQ_n ?_
        refine Wsr J J ?_
        refine Rv J J J (U_move J) J J ?_
        refine Rv J J J (U_lenOf J len_ros) J J ?_
        refine Rv J J J (U_gtr J J) J J ?_
        refine Rt J ?_
        refine WcondP J J (fun hc10 => ?_) (fun hc10 => ?_)
        · refine Wsr J J ?_
          refine Rv J J J (U_call J J (works_p) J) J J ?_
          refine Rv J J J (U_assign J) J J ?_
          refine Rt J ?_
          refine W_ret J ?_
          refine blkQ_r ?_
          refine thenQ_r ?_
          refine thenQ_r ?_
          refine blkQ_r ?_
          refine thenQ_r ?_
          exact retL (rlT J rl0) J J
        · refine W_skip J ?_
          refine blkQ_n ?_
          refine thenQ_n ?_
          refine W_reg J ?_
          refine Rv J J J (U_move J) J J ?_
          refine Rv J J J (U_add J J (w64e (m := ((p + 1 : Nat) : Int)) (by omega) (by omega) (by omega))) J J ?_
          refine Rv J J J (U_assign J) J J ?_
          refine Rt J ?_
          exact againTo (T' := [(2, .rop [i64 ((H : Nat) : Int), i64 ((Z : Nat) : Int), .ros (ls.map boxesL) ls.length c] 0), (8, i64 ((m : Nat) : Int)), (19, i64 (((p + 1) : Nat) : Int))]) (H' := []) (n := 0) (H * Z - (p + 1)) ⟨p + 1, (by omega), (by intro k h; rcases Nat.lt_succ_iff_lt_or_eq.1 h with h | rfl; exact hi2_1 k h; omega), J, J⟩ (by omega) id ⟨eD J J, eD J J, eD J J, trivial⟩ trivial J J J J (fun _ _ => J)
      · have hm4 := h4 hpie fun k h => hi2_1 k (by omega)
        refine W_exit J ?_
        refine thenQ_x ?_
        refine thenQ_x ?_
        refine blkQ_x J ?_
        refine thenQ_n ?_
        refine Wsr J J ?_
        refine Rv J J J (U_move J) J J ?_
        refine Rv J J J (OpU.toB (U_leq J J) (decide_eq_true (by omega))) J J ?_
        refine Rv J J J (U_move J) J J ?_
        refine Rv J J J (U_call J J (works_p) J) J J ?_
        refine Rv J J J (U_pick_t J J) J J ?_
        refine Rv J J J (U_assign J) J J ?_
        refine Rt J ?_
        refine W_ret J ?_
        exact retL (rlT J rl0) J J
theorem borderFour_p (s : Sk) (c : Option Nat) (l : List Nat) (d : Option Nat) (hlb8 : ∀ x ∈ l, x < 256) : Pure Try.prog 9 [.agg [i64 s.h, i64 s.z, landsA s.ls c], bytesA l d] (.bool true) := by
  cases hf : (!grt s && decide (chkS s = 0)) with
  | false => exact borderFourF_p s c hf l d hlb8
  | true =>
    simp only [Bool.and_eq_true, Bool.not_eq_true', decide_eq_true_eq] at hf
    obtain ⟨H, Z, ls, rfl, hv⟩ := sk_ok hf.2
    have hc := hf.2
    have hg := hf.1
    by_cases hl20 : l.length ≤ 20
    · have hln := hv.ln
      simp only at hln
      obtain ⟨k1, k2, k3, _⟩ := tin_facts hc
      have htl : (tinQ (ntrK Z H ls ls.length)).length ≤ 1000000 := by
        have := tin_len (near := ntrK Z H ls ls.length) ntr_ok
        rw [ntrK_len] at this; omega
      have h35 := cht_g H Z ls c hc hv (tinQ (ntrK Z H ls ls.length)) none htl
      have h36 := chtRf_g H Z ls c hc hv (tinQ (ntrK Z H ls ls.length)) none htl
      rw [k1, k2] at h35 h36
      have hol : (ownK ls.length l ls.length).length = ls.length := own_len
      refine borderFourD_p H Z ls c hc hv hg l d hlb8 hl20 _ _ _ _ k3 ?_ (fun hp ho => ?_) (tin_g H Z ls c hc hv) h35 h36 (cht_g H Z ls c hc hv (ownK ls.length l ls.length) none (by omega))
      · rcases cht_own hc hol (own_in (Nat.le_refl _)) with h | h
        · exact .inl h
        · exact .inr h
      · refine tin_four hc hv.h1.1 hln (dis_of fun p hpp => ?_) hp
        have hlt := zh_lt (Z := Z) (H := H) hpp.1 hpp.2
        have := ho (p.1 * H + p.2) (by rw [Nat.mul_comm H Z]; exact hlt)
        rw [(zh_div (z := p.1) hpp.2).1, (zh_div (z := p.1) hpp.2).2] at this; exact this
    · exact borderFourB_p H Z ls c hc hv hg l d hlb8 hl20
end Go.Proofs.Ythlolelbmhfdbaa
end
