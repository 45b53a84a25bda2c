import Derived.Test.YthoodfiacfmhgaaM11
set_option linter.all false
section
/- Counts: plain laws. -/
namespace Go.Proofs.Ythoodfiacfmhgaa
set_option maxRecDepth 20000
open Go.AE
/-- The circles of small plates. -/
noncomputable def cirT : List (List Nat) := [[1, 1, 1, 1, 1, 1, 1, 1], [4, 1, 2, 1, 2, 3, 2, 3], [9, 3, 5, 3, 6, 6, 6, 6], [16, 4, 8, 4, 8, 10, 8, 10], [25, 7, 13, 7, 15, 15, 15, 15]]
theorem cirT_all : ([1, 2, 3, 4, 5].all fun N => (List.range 8).all fun m => decide (cirQ N m = (cirT.getD (N - 1) []).getD m 0)) = true := by decide +kernel
noncomputable def sumT (N a : Nat) (G : List Int) : Nat := G.foldr (fun m s => a ^ ((cirT.getD (N - 1) []).getD m.toNat 0) + s) 0
theorem mem5 {N : Nat} (h : 1 ≤ N ∧ N ≤ 5) : N ∈ [1, 2, 3, 4, 5] := by
  have : N = 1 ∨ N = 2 ∨ N = 3 ∨ N = 4 ∨ N = 5 := by omega
  rcases this with rfl | rfl | rfl | rfl | rfl <;> simp
theorem mem4 {N : Nat} (h : 1 ≤ N ∧ N ≤ 4) : N ∈ [1, 2, 3, 4] := by
  have : N = 1 ∨ N = 2 ∨ N = 3 ∨ N = 4 := by omega
  rcases this with rfl | rfl | rfl | rfl <;> simp
theorem cirT_eq {N : Nat} (h : 1 ≤ N ∧ N ≤ 5) {m : Int} (hm : 0 ≤ m ∧ m < 8) : cirQ N m = (cirT.getD (N - 1) []).getD m.toNat 0 := by
  have := List.all_eq_true.1 (List.all_eq_true.1 cirT_all N (mem5 h)) m.toNat (List.mem_range.2 (by omega))
  simp only [decide_eq_true_eq] at this
  rwa [Int.toNat_of_nonneg hm.1] at this
theorem sumT_eq {N a : Nat} (h : 1 ≤ N ∧ N ≤ 5) : ∀ {G : List Int}, (∀ m ∈ G, 0 ≤ m ∧ m < 8) → sumI N a G = ((sumT N a G : Nat) : Int)
  | [], _ => rfl
  | m :: G, hG => by
    have ih := sumT_eq (a := a) h (G := G) fun x hx => hG x (List.mem_cons_of_mem _ hx)
    rw [sumI, ih, cirT_eq h (hG m (by simp))]
    show _ = (((a ^ _ + sumT N a G : Nat)) : Int)
    push_cast; rfl
theorem cnt_all : (Gs.all fun G => [1, 2, 3, 4, 5].all fun N => [1, 2, 3, 4].all fun a => Nat.beq (sumT N a G % G.length) 0 && Nat.ble 1 (sumT N a G / G.length) && Nat.ble (sumT N a G / G.length) 1125899906842624 && (!Nat.beq a 1 || Nat.beq (sumT N a G / G.length) 1)) = true := by decide +kernel
/-- How many plates are different. -/
noncomputable def cntT (N a : Nat) (G : List Int) : Nat := sumT N a G / G.length
theorem cnt_facts {G : List Int} (hG : G ∈ Gs) {N a : Nat} (h : 1 ≤ N ∧ N ≤ 5) (ha : 1 ≤ a ∧ a ≤ 4) : cntT N a G * G.length = sumT N a G ∧ 1 ≤ cntT N a G ∧ cntT N a G ≤ 1125899906842624 ∧ (a = 1 → cntT N a G = 1) := by
  have h1 := List.all_eq_true.1 (List.all_eq_true.1 (List.all_eq_true.1 cnt_all G hG) N (mem5 h)) a (mem4 ha)
  simp only [Bool.and_eq_true, Bool.or_eq_true, Bool.not_eq_true'] at h1
  obtain ⟨⟨⟨e1, e2⟩, e3⟩, e4⟩ := h1
  refine ⟨Nat.div_mul_cancel (Nat.dvd_of_mod_eq_zero (Nat.eq_of_beq_eq_true e1)), Nat.le_of_ble_eq_true e2, Nat.le_of_ble_eq_true e3, fun e => ?_⟩
  subst e
  rcases e4 with e4 | e4
  · cases e4
  · exact Nat.eq_of_beq_eq_true e4
theorem cntG {N a : Nat} (h : 1 ≤ N ∧ N ≤ 5) (ha : 1 ≤ a ∧ a ≤ 4) {ks : List Int} (hok : okK 0 ks = true) : cntR (N : Nat) (a : Nat) ks = ((cntT N a (reachedQ ks) : Nat) : Int) ∧ cntE (N : Nat) (a : Nat) ks = 0 := by
  have e : cntE (N : Nat) (a : Nat) ks = 0 := by
    rw [cntE, if_neg (not_not_intro (by omega)), if_neg (not_not_intro (chkK_0 hok)), if_neg (by omega)]
  refine ⟨?_, e⟩
  rw [cntR, if_pos e, Int.toNat_natCast, sumT_eq h fun m hm => reached_in hm, cntT]
  norm_cast
theorem countG_p (N a : Nat) (h : 1 ≤ N ∧ N ≤ 5) (ha : 1 ≤ a ∧ a ≤ 4) (ks : List Int) (c : Option Nat) (hok : okK 0 ks = true) : Pure Try.prog 47 [i64 ((N : Nat) : Int), i64 ((a : Nat) : Int), intsA ks c] (.tup [i64 ((cntT N a (reachedQ ks) : Nat) : Int), i64 0]) := by
  have k := count_p (N : Nat) (a : Nat) ks c (by have := okK_len hok; omega)
  rwa [(cntG h ha hok).1, (cntG h ha hok).2] at k
theorem circlesG_p (N : Nat) (h : 1 ≤ N ∧ N ≤ 5) (m : Int) (hm : 0 ≤ m ∧ m < 8) : Pure Try.prog 31 [i64 ((N : Nat) : Int), i64 m] (.tup [i64 ((cirQ N m : Nat) : Int), i64 0]) := by
  have k := circlesA_p (N : Nat) m
  have e : ciE (N : Nat) m = 0 := by rw [ciE, if_neg (not_not_intro (by omega)), if_pos (isMoT hm)]
  rwa [ciR, e, if_pos rfl, Int.toNat_natCast] at k
theorem cirT_pos : ([1, 2, 3, 4, 5].all fun N => (List.range 8).all fun m => Nat.ble 1 ((cirT.getD (N - 1) []).getD m 0)) = true := by decide +kernel
theorem cir_pos {N : Nat} (h : 1 ≤ N ∧ N ≤ 5) {m : Int} (hm : 0 ≤ m ∧ m < 8) : 1 ≤ cirQ N m := by
  rw [cirT_eq h hm]
  exact Nat.le_of_ble_eq_true (List.all_eq_true.1 (List.all_eq_true.1 cirT_pos N (mem5 h)) m.toNat (List.mem_range.2 (by omega)))
end Go.Proofs.Ythoodfiacfmhgaa
end

section
/- Plans and heights: plain laws. -/
namespace Go.Proofs.Ythoodfiacfmhgaa
set_option maxRecDepth 20000
open Go.AE
theorem hei_all : (allK.all fun ks => (ks.all fun k => pR ks k.toNat) && (List.range 8).all fun r => !Nat.beq (geN (heiQ ks) r) 0 || Nat.beq r 0) = true := by decide +kernel
theorem sub_reached {ks : List Int} (h : okK 0 ks = true) {k : Int} (hk : k ∈ ks) : k ∈ reachedQ ks := by
  have h1 := List.all_eq_true.1 hei_all ks (okK_all h)
  rw [Bool.and_eq_true] at h1
  have h2 := List.all_eq_true.1 h1.1 k hk
  have := okK_mem h hk
  exact filt_mem.2 ⟨k.toNat, by omega, h2, by omega⟩
theorem hei_zero {ks : List Int} (h : okK 0 ks = true) {r : Nat} (hr : r < 8) (h0 : geN (heiQ ks) r = 0) : r = 0 := by
  have h1 := List.all_eq_true.1 hei_all ks (okK_all h)
  rw [Bool.and_eq_true] at h1
  have h2 := List.all_eq_true.1 h1.2 r (List.mem_range.2 hr)
  rw [Bool.or_eq_true, Bool.not_eq_true'] at h2
  rcases h2 with h2 | h2
  · rw [h0] at h2; cases h2
  · exact Nat.eq_of_beq_eq_true h2
theorem right_all : (allK.all fun ks => decide (chE ks (nI (heiQ ks)) = 0)) = true := by decide +kernel
theorem hei_right {ks : List Int} (h : okK 0 ks = true) : chE ks (nI (heiQ ks)) = 0 := by
  have h1 := List.all_eq_true.1 right_all ks (okK_all h)
  simpa using h1
theorem chE_ok {ks hs : List Int} (h : chE ks hs = 0) : hs.length = 8 ∧ hs.getD 0 0 = 0 ∧ ∀ m, m < 8 → badB ks hs m = false := by
  unfold chE at h
  split at h
  · rename_i h1; exact absurd h h1
  · split at h
    · cases h
    · rename_i h2
      split at h
      · cases h
      · rename_i h3
        split at h
        · cases h
        · rename_i h4
          refine ⟨by omega, ?_, fun m hm => ?_⟩
          · by_cases e : hs.getD 0 0 = 0
            · exact e
            · exact absurd (by rw [Bool.or_eq_true]; exact .inr (by simpa using e)) h3
          · rw [Bool.eq_false_iff]; exact fun h5 => h4 (any_rngT hm h5)
end Go.Proofs.Ythoodfiacfmhgaa
end

section
/- Plans that are proved: plain laws. -/
namespace Go.Proofs.Ythoodfiacfmhgaa
set_option maxRecDepth 20000
open Go.AE
theorem right_step {ks hs : List Int} (h : chE ks hs = 0) {m : Int} (hm : 0 ≤ m ∧ m < 8) {k : Int} (hk : k ∈ ks) : hs.getD (aft m k).toNat 0 ≤ hs.getD m.toNat 0 + 1 := by
  have h1 := (chE_ok h).2.2 m.toNat (by omega)
  have h2 := List.any_eq_false.1 h1 (aft m k).toNat (List.mem_map.2 ⟨k, hk, by rw [Int.toNat_of_nonneg hm.1]⟩)
  have h3 : ¬ hs.getD m.toNat 0 + 1 < hs.getD (aft m k).toNat 0 := by simpa using h2
  omega
theorem right_plan {ks hs : List Int} (hok : okK 0 ks = true) (h : chE ks hs = 0) : ∀ (pl : List Int) {a : Int}, 0 ≤ a ∧ a < 8 → (∀ x ∈ pl, x ∈ ks) → hs.getD (pl.foldl aft a).toNat 0 ≤ hs.getD a.toNat 0 + pl.length
  | [], a, _, _ => by simp
  | x :: pl, a, ha, hp => by
    have hx := hp x (by simp)
    have h1 := right_step h ha hx
    have h2 := right_plan hok h pl (a := aft a x) (after_in ha (okK_mem hok hx)) fun y hy => hp y (List.mem_cons_of_mem _ hy)
    rw [List.foldl_cons, List.length_cons]
    push_cast
    omega
theorem right_low {ks hs : List Int} (hok : okK 0 ks = true) (h : chE ks hs = 0) {pl : List Int} (hp : ∀ x ∈ pl, x ∈ ks) : hs.getD (pl.foldl aft 0).toNat 0 ≤ pl.length := by
  have h1 := right_plan hok h pl (a := 0) (by omega) hp
  have h2 := (chE_ok h).2.1
  simp only [Int.toNat_zero] at h1
  omega
theorem nI_get {l : List Nat} {i : Nat} (h : i < l.length) : (nI l).getD i 0 = ((l[i] : Nat) : Int) := by
  have h2 : i < (nI l).length := by rw [nI_len]; exact h
  rw [getDI h2]; simp [nI]
theorem hei_low {ks : List Int} (hok : okK 0 ks = true) {pl : List Int} (hp : ∀ x ∈ pl, x ∈ ks) (hl : (pl.foldl aft 0).toNat < (heiQ ks).length) : (heiQ ks)[(pl.foldl aft 0).toNat] ≤ pl.length := by
  have := right_low hok (hei_right hok) hp
  rw [nI_get hl] at this
  omega
theorem fold_G {G : List Int} (hG : G ∈ Gs) : ∀ (pl : List Int) {a : Int}, a ∈ G → (∀ x ∈ pl, x ∈ G) → pl.foldl aft a ∈ G
  | [], _, ha, _ => ha
  | x :: pl, _, ha, hp => fold_G hG pl (G_aft hG ha (hp x (by simp))) fun y hy => hp y (List.mem_cons_of_mem _ hy)
theorem plnN_mem {ks : List Int} {bs : List Nat} {x : Int} (h : x ∈ plnN ks bs) : x ∈ ks := by
  unfold plnN at h
  split at h
  · obtain ⟨b, _, rfl⟩ := List.mem_map.1 h; exact List.getElem_mem _
  · cases h
theorem pl_G {ks : List Int} (hok : okK 0 ks = true) {pl : List Int} (hp : ∀ x ∈ pl, x ∈ ks) : pl.foldl aft 0 ∈ reachedQ ks := fold_G (reach_G hok) pl (G_0 (reach_G hok)) fun x hx => sub_reached hok (hp x hx)
/-- The plan with the fewest moves. -/
noncomputable def plQ (ks : List Int) (mo : Int) : List Int := planQ ks (heiQ ks) mo (geN (heiQ ks) mo.toNat) 0
theorem rst0_all : (motions.all fun a => motions.all fun mo => decide (rst a mo = 0 → a = mo)) = true := by decide +kernel
theorem plQ_facts {ks : List Int} (hok : okK 0 ks = true) {mo : Int} (hmo : 0 ≤ mo ∧ mo < 8) (h : geN (heiQ ks) mo.toNat ≠ 20) : (plQ ks mo).length = geN (heiQ ks) mo.toNat ∧ (∀ x ∈ plQ ks mo, x ∈ ks) ∧ (plQ ks mo).foldl aft 0 = mo := by
  have h4 := hei_4 hok (by omega) h
  obtain ⟨pre, tl, _, h2, h3, h5, h6⟩ := stp_step hok (chkK_0 hok) hmo h4 rfl _ (Nat.le_refl _)
  rw [Nat.sub_self, planQ, List.append_nil] at h6
  have e : plQ ks mo = pre := h6
  rw [e]
  refine ⟨h2, h3, ?_⟩
  have ha := fold_in (ks := ks) (fun x hx => okK_mem hok hx) pre (a := 0) (by omega) h3
  have hr := rst_in ha hmo
  rw [Nat.sub_self] at h5
  have h7 := hei_zero hok (r := (rst (pre.foldl aft 0) mo).toNat) (by omega) h5
  have h8 := rst0_all
  simp only [List.all_eq_true, decide_eq_true_eq] at h8
  exact h8 _ (mo_mem ha) _ (mo_mem hmo) (by omega)
theorem plnE_eq {ks : List Int} (hok : okK 0 ks = true) {mo : Int} (hmo : 0 ≤ mo ∧ mo < 8) : plnE ks mo = if geN (heiQ ks) mo.toNat = 20 then 13 else 0 := by
  rw [plnE, if_neg (not_not_intro (chkK_0 hok)), if_neg (by rw [isMoT hmo]; decide)]
theorem planA20_p (ks : List Int) (c : Option Nat) (hok : okK 0 ks = true) (mo : Int) (hmo : 0 ≤ mo ∧ mo < 8) (h : geN (heiQ ks) mo.toNat = 20) : Pure Try.prog 37 [intsA ks c, i64 mo] (.tup [intsA [] none, i64 13]) := by
  have k := planA_p ks c (by have := okK_len hok; omega) mo
  have e : plnE ks mo = 13 := by rw [plnE_eq hok hmo, if_pos h]
  rwa [plnR, e, if_neg (by decide)] at k
theorem planAQ_p (ks : List Int) (c : Option Nat) (hok : okK 0 ks = true) (mo : Int) (hmo : 0 ≤ mo ∧ mo < 8) (h : geN (heiQ ks) mo.toNat ≠ 20) : Pure Try.prog 37 [intsA ks c, i64 mo] (.tup [intsA (plQ ks mo) none, i64 0]) := by
  have k := planA_p ks c (by have := okK_len hok; omega) mo
  have e : plnE ks mo = 0 := by rw [plnE_eq hok hmo, if_neg h]
  rwa [plnR, e, if_pos rfl] at k
theorem heightsG_p (ks : List Int) (c : Option Nat) (hok : okK 0 ks = true) : Pure Try.prog 39 [intsA ks c] (.tup [.ros ((heiQ ks).map n64) (heiQ ks).length none, i64 0]) := by
  have k := heightsA_p ks c (by have := okK_len hok; omega)
  rwa [heiR, if_pos (chkK_0 hok), chkK_0 hok] at k
theorem chHG_p (ks : List Int) (c d : Option Nat) (hok : okK 0 ks = true) : Pure Try.prog 41 [intsA ks c, .ros ((heiQ ks).map n64) (heiQ ks).length d] (i64 0) := by
  have k := checkHeightsN_p ks c (by have := okK_len hok; omega) (heiQ ks) d (by rw [heiQ_ok.len]; decide)
  rwa [hei_right hok] at k
theorem chHGR_p (ks : List Int) (c d : Option Nat) (hok : okK 0 ks = true) : Pure Try.prog 42 [intsA ks c, .ros ((heiQ ks).map n64) (heiQ ks).length d] (i64 0) := by
  have k := checkHeightsNR_p ks c (by have := okK_len hok; omega) (heiQ ks) d (by rw [heiQ_ok.len]; decide)
  rwa [hei_right hok] at k
theorem chPG_p (ks : List Int) (c : Option Nat) (hok : okK 0 ks = true) (pl : List Int) (d : Option Nat) (hl : pl.length ≤ 20) (hp : ∀ x ∈ pl, x ∈ ks) {m : Int} (hm : pl.foldl aft 0 = m) : Pure Try.prog 35 [intsA ks c, intsA pl d] (.tup [i64 m, i64 0]) := by
  have k := checkPlan_p ks c (by have := okK_len hok; omega) pl d (by omega)
  obtain ⟨h1, h2⟩ := cplR_ok (chkK_0 hok) hl hp
  rwa [h1, h2, hm] at k
theorem chPGR_p (ks : List Int) (c : Option Nat) (hok : okK 0 ks = true) (pl : List Int) (d : Option Nat) (hl : pl.length ≤ 20) (hp : ∀ x ∈ pl, x ∈ ks) {m : Int} (hm : pl.foldl aft 0 = m) : Pure Try.prog 36 [intsA ks c, intsA pl d] (.tup [i64 m, i64 0]) := by
  have k := checkPlanR_p ks c (by have := okK_len hok; omega) pl d (by omega)
  obtain ⟨h1, h2⟩ := cplR_ok (chkK_0 hok) hl hp
  rwa [h1, h2, hm] at k
theorem hasF_p (l : List Int) (x : Int) (c : Option Nat) (hl : l.length ≤ 1000000) (h : ¬ x ∈ l) : Pure Try.prog 54 [intsA l c, i64 x] (.bool false) := by
  have k := has_p l x c hl
  rwa [show (l.any fun y => decide (x = y)) = false from by rw [List.any_eq_false]; intro y hy; simp; rintro rfl; exact h hy] at k
theorem reached_iff {ks : List Int} {m : Nat} (hm : m < 8) : ((m : Nat) : Int) ∈ reachedQ ks ↔ geN (heiQ ks) m ≠ 20 := by
  have h8 := (heiQ_ok (ks := ks)).len
  have h20 : geN (heiQ ks) m ≤ 20 := by rw [geN_get (by omega)]; exact heiQ_ok.get _
  constructor
  · intro h
    obtain ⟨i, _, hp, e⟩ := filt_mem.1 h
    have : m = i := by omega
    subst this
    rw [pR, Nat.blt_eq] at hp; omega
  · intro h
    exact filt_mem.2 ⟨m, hm, by rw [pR, Nat.blt_eq]; omega, rfl⟩
theorem chE_cases (ks hs : List Int) (c d : Option Nat) (hk : ks.length ≤ 1000000) (hl : hs.length ≤ 1000000) {x : Int} (hx : chE ks hs = x) : Pure Try.prog 41 [intsA ks c, intsA hs d] (i64 x) := hx ▸ checkHeights_p ks c hk hs d hl
end Go.Proofs.Ythoodfiacfmhgaa
end

section
/- One kind more: plain laws. -/
namespace Go.Proofs.Ythoodfiacfmhgaa
set_option maxRecDepth 20000
open Go.AE
theorem or_bit {b i j : Nat} (h : b >>> i &&& 1 = 1) : (b ||| j) >>> i &&& 1 = 1 := by
  have h1 : b.testBit i = true := by rw [Nat.testBit, Nat.and_comm, bne_iff_ne]; omega
  have h2 : (b ||| j).testBit i = true := by rw [Nat.testBit_or, h1]; rfl
  rw [Nat.testBit, Nat.and_comm, bne_iff_ne] at h2
  have h3 := Nat.and_le_right (n := (b ||| j) >>> i) (m := 1)
  omega
theorem kds_sub {b j : Nat} {x : Int} (h : x ∈ kdsQ b) : x ∈ kdsQ (b ||| j) := by
  obtain ⟨i, hi, hp, e⟩ := filt_mem.1 h
  refine filt_mem.2 ⟨i, hi, ?_, e⟩
  unfold kdB at hp ⊢
  exact decide_eq_true (or_bit (of_decide_eq_true hp))
theorem reached_mono {ks kw : List Int} (h1 : okK 0 ks = true) (h2 : okK 0 kw = true) (hs : ∀ x ∈ ks, x ∈ kw) {a : Int} (ha : a ∈ reachedQ ks) : a ∈ reachedQ kw := by
  have h8 := reached_in ha
  have hr : geN (heiQ ks) a.toNat ≠ 20 := by
    have := (reached_iff (ks := ks) (m := a.toNat) (by omega)).1 (by rw [Int.toNat_of_nonneg h8.1]; exact ha)
    exact this
  obtain ⟨_, hm, hf⟩ := plQ_facts h1 h8 hr
  rw [← hf]
  exact pl_G h2 fun x hx => hs x (hm x hx)
theorem plan_mono {ks kw : List Int} (h1 : okK 0 ks = true) (h2 : okK 0 kw = true) (hs : ∀ x ∈ ks, x ∈ kw) {a : Int} (h8 : 0 ≤ a ∧ a < 8) (hr : geN (heiQ ks) a.toNat ≠ 20) (hr2 : geN (heiQ kw) a.toNat ≠ 20) : (plQ kw a).length ≤ (plQ ks a).length := by
  obtain ⟨h3, hm, hf⟩ := plQ_facts h1 h8 hr
  obtain ⟨h4, _, _⟩ := plQ_facts h2 h8 hr2
  have h5 := (heiQ_ok (ks := kw)).len
  have h6 := hei_low h2 (pl := plQ ks a) (fun x hx => hs x (hm x hx)) (by rw [hf]; omega)
  rw [h4, geN_get (by omega)]
  simp only [hf] at h6
  exact h6
theorem cnt_mono_all : (Gs.all fun G => Gs.all fun G' => !(G.all fun x => decide (x ∈ G')) || [1, 2, 3, 4, 5].all fun N => [1, 2, 3, 4].all fun a => Nat.ble (cntT N a G') (cntT N a G)) = true := by decide +kernel
theorem cnt_mono {G G' : List Int} (h1 : G ∈ Gs) (h2 : G' ∈ Gs) (hs : ∀ x ∈ G, x ∈ G') {N a : Nat} (h : 1 ≤ N ∧ N ≤ 5) (ha : 1 ≤ a ∧ a ≤ 4) : cntT N a G' ≤ cntT N a G := by
  have h3 := List.all_eq_true.1 (List.all_eq_true.1 cnt_mono_all G h1) G' h2
  rw [Bool.or_eq_true, Bool.not_eq_true'] at h3
  rcases h3 with h3 | h3
  · exact absurd (List.all_eq_true.2 fun x hx => decide_eq_true (hs x hx)) (by rw [h3]; decide)
  · exact Nat.le_of_ble_eq_true (List.all_eq_true.1 (List.all_eq_true.1 h3 N (mem5 h)) a (mem4 ha))
theorem shl_lt (m : Nat) : 1 * 2 ^ (m % 8) < 256 ∧ 1 <<< (m % 8) < 256 := by
  have h : m % 8 < 8 := Nat.mod_lt m (by decide)
  have h2 : 2 ^ (m % 8) ≤ 2 ^ 7 := Nat.pow_le_pow_right (by decide) (by omega)
  rw [Nat.shiftLeft_eq]
  omega
end Go.Proofs.Ythoodfiacfmhgaa
end
