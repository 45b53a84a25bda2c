import Derived.Test.YthoodfiacfmhgaaM13
import Derived.Test.YthoodfiacfmhgaaM14
set_option linter.all false
section
/- Plans and heights: plain laws. -/
namespace Go.Proofs.Ythoodfiacfmhgaa
set_option maxRecDepth 20000
open Go.AE
theorem hei_all : (allK.all fun ks => (ks.all fun k => pR ks k.toNat) && (List.range 8).all fun r => !Nat.beq (geN (heiQ ks) r) 0 || Nat.beq r 0) = true := by decide +kernel
theorem sub_reached {ks : List Int} (h : okK 0 ks = true) {k : Int} (hk : k ∈ ks) : k ∈ reachedQ ks := by
  have h1 := List.all_eq_true.1 hei_all ks (okK_all h)
  rw [Bool.and_eq_true] at h1
  have h2 := List.all_eq_true.1 h1.1 k hk
  have := okK_mem h hk
  exact filt_mem.2 ⟨k.toNat, by omega, h2, by omega⟩
theorem hei_zero {ks : List Int} (h : okK 0 ks = true) {r : Nat} (hr : r < 8) (h0 : geN (heiQ ks) r = 0) : r = 0 := by
  have h1 := List.all_eq_true.1 hei_all ks (okK_all h)
  rw [Bool.and_eq_true] at h1
  have h2 := List.all_eq_true.1 h1.2 r (List.mem_range.2 hr)
  rw [Bool.or_eq_true, Bool.not_eq_true'] at h2
  rcases h2 with h2 | h2
  · rw [h0] at h2; cases h2
  · exact Nat.eq_of_beq_eq_true h2
theorem right_all : (allK.all fun ks => decide (chE ks (nI (heiQ ks)) = 0)) = true := by decide +kernel
theorem hei_right {ks : List Int} (h : okK 0 ks = true) : chE ks (nI (heiQ ks)) = 0 := by
  have h1 := List.all_eq_true.1 right_all ks (okK_all h)
  simpa using h1
theorem chE_ok {ks hs : List Int} (h : chE ks hs = 0) : hs.length = 8 ∧ hs.getD 0 0 = 0 ∧ ∀ m, m < 8 → badB ks hs m = false := by
  unfold chE at h
  split at h
  · rename_i h1; exact absurd h h1
  · split at h
    · cases h
    · rename_i h2
      split at h
      · cases h
      · rename_i h3
        split at h
        · cases h
        · rename_i h4
          refine ⟨by omega, ?_, fun m hm => ?_⟩
          · by_cases e : hs.getD 0 0 = 0
            · exact e
            · exact absurd (by rw [Bool.or_eq_true]; exact .inr (by simpa using e)) h3
          · rw [Bool.eq_false_iff]; exact fun h5 => h4 (any_rngT hm h5)
end Go.Proofs.Ythoodfiacfmhgaa
end

section
/- Plans that are proved: plain laws. -/
namespace Go.Proofs.Ythoodfiacfmhgaa
set_option maxRecDepth 20000
open Go.AE
theorem right_step {ks hs : List Int} (h : chE ks hs = 0) {m : Int} (hm : 0 ≤ m ∧ m < 8) {k : Int} (hk : k ∈ ks) : hs.getD (aft m k).toNat 0 ≤ hs.getD m.toNat 0 + 1 := by
  have h1 := (chE_ok h).2.2 m.toNat (by omega)
  have h2 := List.any_eq_false.1 h1 (aft m k).toNat (List.mem_map.2 ⟨k, hk, by rw [Int.toNat_of_nonneg hm.1]⟩)
  have h3 : ¬ hs.getD m.toNat 0 + 1 < hs.getD (aft m k).toNat 0 := by simpa using h2
  omega
theorem right_plan {ks hs : List Int} (hok : okK 0 ks = true) (h : chE ks hs = 0) : ∀ (pl : List Int) {a : Int}, 0 ≤ a ∧ a < 8 → (∀ x ∈ pl, x ∈ ks) → hs.getD (pl.foldl aft a).toNat 0 ≤ hs.getD a.toNat 0 + pl.length
  | [], a, _, _ => by simp
  | x :: pl, a, ha, hp => by
    have hx := hp x (by simp)
    have h1 := right_step h ha hx
    have h2 := right_plan hok h pl (a := aft a x) (after_in ha (okK_mem hok hx)) fun y hy => hp y (List.mem_cons_of_mem _ hy)
    rw [List.foldl_cons, List.length_cons]
    push_cast
    omega
theorem right_low {ks hs : List Int} (hok : okK 0 ks = true) (h : chE ks hs = 0) {pl : List Int} (hp : ∀ x ∈ pl, x ∈ ks) : hs.getD (pl.foldl aft 0).toNat 0 ≤ pl.length := by
  have h1 := right_plan hok h pl (a := 0) (by omega) hp
  have h2 := (chE_ok h).2.1
  simp only [Int.toNat_zero] at h1
  omega
theorem nI_get {l : List Nat} {i : Nat} (h : i < l.length) : (nI l).getD i 0 = ((l[i] : Nat) : Int) := by
  have h2 : i < (nI l).length := by rw [nI_len]; exact h
  rw [getDI h2]; simp [nI]
theorem hei_low {ks : List Int} (hok : okK 0 ks = true) {pl : List Int} (hp : ∀ x ∈ pl, x ∈ ks) (hl : (pl.foldl aft 0).toNat < (heiQ ks).length) : (heiQ ks)[(pl.foldl aft 0).toNat] ≤ pl.length := by
  have := right_low hok (hei_right hok) hp
  rw [nI_get hl] at this
  omega
theorem fold_G {G : List Int} (hG : G ∈ Gs) : ∀ (pl : List Int) {a : Int}, a ∈ G → (∀ x ∈ pl, x ∈ G) → pl.foldl aft a ∈ G
  | [], _, ha, _ => ha
  | x :: pl, _, ha, hp => fold_G hG pl (G_aft hG ha (hp x (by simp))) fun y hy => hp y (List.mem_cons_of_mem _ hy)
theorem plnN_mem {ks : List Int} {bs : List Nat} {x : Int} (h : x ∈ plnN ks bs) : x ∈ ks := by
  unfold plnN at h
  split at h
  · obtain ⟨b, _, rfl⟩ := List.mem_map.1 h; exact List.getElem_mem _
  · cases h
theorem pl_G {ks : List Int} (hok : okK 0 ks = true) {pl : List Int} (hp : ∀ x ∈ pl, x ∈ ks) : pl.foldl aft 0 ∈ reachedQ ks := fold_G (reach_G hok) pl (G_0 (reach_G hok)) fun x hx => sub_reached hok (hp x hx)
/-- The plan with the fewest moves. -/
noncomputable def plQ (ks : List Int) (mo : Int) : List Int := planQ ks (heiQ ks) mo (geN (heiQ ks) mo.toNat) 0
theorem rst0_all : (motions.all fun a => motions.all fun mo => decide (rst a mo = 0 → a = mo)) = true := by decide +kernel
theorem plQ_facts {ks : List Int} (hok : okK 0 ks = true) {mo : Int} (hmo : 0 ≤ mo ∧ mo < 8) (h : geN (heiQ ks) mo.toNat ≠ 20) : (plQ ks mo).length = geN (heiQ ks) mo.toNat ∧ (∀ x ∈ plQ ks mo, x ∈ ks) ∧ (plQ ks mo).foldl aft 0 = mo := by
  have h4 := hei_4 hok (by omega) h
  obtain ⟨pre, tl, _, h2, h3, h5, h6⟩ := stp_step hok (chkK_0 hok) hmo h4 rfl _ (Nat.le_refl _)
  rw [Nat.sub_self, planQ, List.append_nil] at h6
  have e : plQ ks mo = pre := h6
  rw [e]
  refine ⟨h2, h3, ?_⟩
  have ha := fold_in (ks := ks) (fun x hx => okK_mem hok hx) pre (a := 0) (by omega) h3
  have hr := rst_in ha hmo
  rw [Nat.sub_self] at h5
  have h7 := hei_zero hok (r := (rst (pre.foldl aft 0) mo).toNat) (by omega) h5
  have h8 := rst0_all
  simp only [List.all_eq_true, decide_eq_true_eq] at h8
  exact h8 _ (mo_mem ha) _ (mo_mem hmo) (by omega)
theorem plnE_eq {ks : List Int} (hok : okK 0 ks = true) {mo : Int} (hmo : 0 ≤ mo ∧ mo < 8) : plnE ks mo = if geN (heiQ ks) mo.toNat = 20 then 13 else 0 := by
  rw [plnE, if_neg (not_not_intro (chkK_0 hok)), if_neg (by rw [isMoT hmo]; decide)]
theorem planA20_p (ks : List Int) (c : Option Nat) (hok : okK 0 ks = true) (mo : Int) (hmo : 0 ≤ mo ∧ mo < 8) (h : geN (heiQ ks) mo.toNat = 20) : Pure Try.prog 37 [intsA ks c, i64 mo] (.tup [intsA [] none, i64 13]) := by
  have k := planA_p ks c (by have := okK_len hok; omega) mo
  have e : plnE ks mo = 13 := by rw [plnE_eq hok hmo, if_pos h]
  rwa [plnR, e, if_neg (by decide)] at k
theorem planAQ_p (ks : List Int) (c : Option Nat) (hok : okK 0 ks = true) (mo : Int) (hmo : 0 ≤ mo ∧ mo < 8) (h : geN (heiQ ks) mo.toNat ≠ 20) : Pure Try.prog 37 [intsA ks c, i64 mo] (.tup [intsA (plQ ks mo) none, i64 0]) := by
  have k := planA_p ks c (by have := okK_len hok; omega) mo
  have e : plnE ks mo = 0 := by rw [plnE_eq hok hmo, if_neg h]
  rwa [plnR, e, if_pos rfl] at k
theorem heightsG_p (ks : List Int) (c : Option Nat) (hok : okK 0 ks = true) : Pure Try.prog 39 [intsA ks c] (.tup [.ros ((heiQ ks).map n64) (heiQ ks).length none, i64 0]) := by
  have k := heightsA_p ks c (by have := okK_len hok; omega)
  rwa [heiR, if_pos (chkK_0 hok), chkK_0 hok] at k
theorem chHG_p (ks : List Int) (c d : Option Nat) (hok : okK 0 ks = true) : Pure Try.prog 41 [intsA ks c, .ros ((heiQ ks).map n64) (heiQ ks).length d] (i64 0) := by
  have k := checkHeightsN_p ks c (by have := okK_len hok; omega) (heiQ ks) d (by rw [heiQ_ok.len]; decide)
  rwa [hei_right hok] at k
theorem chHGR_p (ks : List Int) (c d : Option Nat) (hok : okK 0 ks = true) : Pure Try.prog 42 [intsA ks c, .ros ((heiQ ks).map n64) (heiQ ks).length d] (i64 0) := by
  have k := checkHeightsNR_p ks c (by have := okK_len hok; omega) (heiQ ks) d (by rw [heiQ_ok.len]; decide)
  rwa [hei_right hok] at k
theorem chPG_p (ks : List Int) (c : Option Nat) (hok : okK 0 ks = true) (pl : List Int) (d : Option Nat) (hl : pl.length ≤ 20) (hp : ∀ x ∈ pl, x ∈ ks) {m : Int} (hm : pl.foldl aft 0 = m) : Pure Try.prog 35 [intsA ks c, intsA pl d] (.tup [i64 m, i64 0]) := by
  have k := checkPlan_p ks c (by have := okK_len hok; omega) pl d (by omega)
  obtain ⟨h1, h2⟩ := cplR_ok (chkK_0 hok) hl hp
  rwa [h1, h2, hm] at k
theorem chPGR_p (ks : List Int) (c : Option Nat) (hok : okK 0 ks = true) (pl : List Int) (d : Option Nat) (hl : pl.length ≤ 20) (hp : ∀ x ∈ pl, x ∈ ks) {m : Int} (hm : pl.foldl aft 0 = m) : Pure Try.prog 36 [intsA ks c, intsA pl d] (.tup [i64 m, i64 0]) := by
  have k := checkPlanR_p ks c (by have := okK_len hok; omega) pl d (by omega)
  obtain ⟨h1, h2⟩ := cplR_ok (chkK_0 hok) hl hp
  rwa [h1, h2, hm] at k
theorem hasF_p (l : List Int) (x : Int) (c : Option Nat) (hl : l.length ≤ 1000000) (h : ¬ x ∈ l) : Pure Try.prog 54 [intsA l c, i64 x] (.bool false) := by
  have k := has_p l x c hl
  rwa [show (l.any fun y => decide (x = y)) = false from by rw [List.any_eq_false]; intro y hy; simp; rintro rfl; exact h hy] at k
theorem reached_iff {ks : List Int} {m : Nat} (hm : m < 8) : ((m : Nat) : Int) ∈ reachedQ ks ↔ geN (heiQ ks) m ≠ 20 := by
  have h8 := (heiQ_ok (ks := ks)).len
  have h20 : geN (heiQ ks) m ≤ 20 := by rw [geN_get (by omega)]; exact heiQ_ok.get _
  constructor
  · intro h
    obtain ⟨i, _, hp, e⟩ := filt_mem.1 h
    have : m = i := by omega
    subst this
    rw [pR, Nat.blt_eq] at hp; omega
  · intro h
    exact filt_mem.2 ⟨m, hm, by rw [pR, Nat.blt_eq]; omega, rfl⟩
theorem chE_cases (ks hs : List Int) (c d : Option Nat) (hk : ks.length ≤ 1000000) (hl : hs.length ≤ 1000000) {x : Int} (hx : chE ks hs = x) : Pure Try.prog 41 [intsA ks c, intsA hs d] (i64 x) := hx ▸ checkHeights_p ks c hk hs d hl
end Go.Proofs.Ythoodfiacfmhgaa
end

section
/- Plans that are proved. -/
namespace Go.Proofs.Ythoodfiacfmhgaa
set_option maxRecDepth 20000
open Go.AE
theorem plateProved0_p (b x : Nat) (bs : List Nat) (hs : List Int) (c d : Option Nat) (hf : (decide ((20 : Int) < ((bs.length : Nat) : Int)) || decide ((20 : Int) < ((hs.length : Nat) : Int))) = true) : Pure Try.prog 9 [.int .u8 (b : Nat), .int .u8 (x : Nat), bytesA bs c, intsA hs d] (.bool true) := by
  refine pure_of_body Try.func9 (c := body Try.f9) rfl (by simp [Try.ntmps9]) fun w0 Φ0 => ?_
  refine W_seq rfl ?_
  refine W_reg rfl ?_
  refine Rv rfl rfl rfl (U_assign rfl) rfl rfl ?_
  refine Re rfl ?_
  refine thenQ_n ?_
  refine W_seq rfl ?_
  refine W_seq rfl ?_
  refine Wjoin ⟨[(0, .int .u8 ((b : Nat) : Int)), (1, .int .u8 ((x : Nat) : Int)), (2, .ros (bs.map b8) bs.length c), (3, .ros (hs.map i64) hs.length d), (31, .bool ((decide (20 < ((bs.length : Nat) : Int))) || (decide (20 < ((hs.length : Nat) : Int)))))], [], 0, []⟩ ?_ ?_
  · refine W_reg rfl ?_
    refine Rv rfl rfl rfl (U_move rfl) rfl rfl ?_
    refine Rv rfl rfl rfl (U_lenOf rfl len_ros) rfl rfl ?_
    refine Rv rfl rfl rfl (U_gtr rfl rfl) rfl rfl ?_
    refine Rv rfl rfl rfl (U_move rfl) rfl rfl ?_
    refine Rsplit (t := 27) rfl (fun hg1 => ?_) (fun hg1 => ?_)
    · rw [hg1]
      have hg1' : 20 < ((bs.length : Nat) : Int) := of_decide_eq_true hg1
      refine Rs rfl rfl rfl rfl rfl ?_
      refine Rs rfl rfl rfl rfl rfl ?_
      refine Rs rfl rfl rfl rfl rfl ?_
      refine Rv rfl rfl rfl (U_pick_t rfl rfl) rfl rfl ?_
      refine Re rfl ?_
      exact joinTo id ⟨eD rfl rfl, eD rfl rfl, eD rfl rfl, eD rfl rfl, eD rfl rfl, trivial⟩ trivial rfl rfl rfl rfl (fun _ _ => rfl)
    · rw [hg1]
      have hg1' : ¬ (20 < ((bs.length : Nat) : Int)) := of_decide_eq_false hg1
      refine Rv rfl rfl rfl (U_move rfl) rfl rfl ?_
      refine Rv rfl rfl rfl (U_lenOf rfl len_ros) rfl rfl ?_
      refine Rv rfl rfl rfl (U_gtr rfl rfl) rfl rfl ?_
      refine Rv rfl rfl rfl (U_pick_f rfl rfl) rfl rfl ?_
      refine Re rfl ?_
      exact joinTo id ⟨eD rfl rfl, eD rfl rfl, eD rfl rfl, eD rfl rfl, eD rfl rfl, trivial⟩ trivial rfl rfl rfl rfl (fun _ _ => rfl)
  refine thenQ_n ?_
  refine Wcond rfl rfl (fun hc0 => ?_) (fun hc0 => absurd hc0 (by rw [hf]; simp))
  refine W_seq rfl ?_
  refine W_reg rfl ?_
  refine Rv rfl rfl rfl (U_call rfl rfl (works_p) rfl) rfl rfl ?_
  refine Rv rfl rfl rfl (U_assign rfl) rfl rfl ?_
  refine Re rfl ?_
  refine thenQ_n ?_
  refine W_ret rfl ?_
  refine thenQ_r ?_
  exact retL (rlT rfl rl0) rfl rfl
theorem plateProved11_p (b x : Nat) (bs : List Nat) (hs : List Int) (c d : Option Nat) (hb8 : b < 256) (hx256 : x < 256) (hbb : ∀ y ∈ bs, y < 256) (hb20 : bs.length ≤ 20) (hh20 : hs.length ≤ 20) (hA : geN (heiQ (kdsQ b)) (((x % 8 : Nat) : Int)).toNat = 20) (hC : chE (kdsQ b) hs = 0) : Pure Try.prog 9 [.int .u8 (b : Nat), .int .u8 (x : Nat), bytesA bs c, intsA hs d] (.bool true) := by
  have hok := kds_ok b
  obtain ⟨hr0, hr8⟩ := reached_len (ks := kdsQ b)
  have h8 := (heiQ_ok (ks := kdsQ b)).len
  have hmo : 0 ≤ ((x % 8 : Nat) : Int) ∧ ((x % 8 : Nat) : Int) < 8 := by omega
  have hpm : ∀ y ∈ (plnN (kdsQ b) bs), y ∈ kdsQ b := fun y hy => plnN_mem hy
  have hpl : (plnN (kdsQ b) bs).length ≤ 20 := Nat.le_trans plnN_len hb20
  have hkl := okK_len hok
  have hm1 := pl_G hok hpm
  have hmi := reached_in hm1
  have hlow := hei_low hok hpm (by omega)
  have hx8 : x % 8 < 8 := Nat.mod_lt x (by decide)
  have hcl := (chE_ok hC).1
  have hcm := right_low hok hC hpm
  rw [getDI (by omega)] at hcm
  have hgx : geN (heiQ (kdsQ b)) (x % 8) = 20 := hA
  rw [geN_get (by omega)] at hgx
  refine pure_of_body Try.func9 (c := body Try.f9) rfl (by simp [Try.ntmps9]) fun w0 Φ0 => ?_
  refine W_seq rfl ?_
  refine W_reg rfl ?_
  refine Rv rfl rfl rfl (U_assign rfl) rfl rfl ?_
  refine Re rfl ?_
  refine thenQ_n ?_
  refine W_seq rfl ?_
  refine W_seq rfl ?_
  refine Wjoin ⟨[(0, .int .u8 ((b : Nat) : Int)), (1, .int .u8 ((x : Nat) : Int)), (2, .ros (bs.map b8) bs.length c), (3, .ros (hs.map i64) hs.length d), (31, .bool ((decide (20 < ((bs.length : Nat) : Int))) || (decide (20 < ((hs.length : Nat) : Int)))))], [], 0, []⟩ ?_ ?_
  · refine W_reg rfl ?_
    refine Rv rfl rfl rfl (U_move rfl) rfl rfl ?_
    refine Rv rfl rfl rfl (U_lenOf rfl len_ros) rfl rfl ?_
    refine Rv rfl rfl rfl (U_gtr rfl rfl) rfl rfl ?_
    refine Rv rfl rfl rfl (U_move rfl) rfl rfl ?_
    refine Rsplit (t := 27) rfl (fun hg1 => ?_) (fun hg1 => ?_)
    · rw [hg1]
      have hg1' : 20 < ((bs.length : Nat) : Int) := of_decide_eq_true hg1
      refine Rs rfl rfl rfl rfl rfl ?_
      refine Rs rfl rfl rfl rfl rfl ?_
      refine Rs rfl rfl rfl rfl rfl ?_
      refine Rv rfl rfl rfl (U_pick_t rfl rfl) rfl rfl ?_
      refine Re rfl ?_
      exact joinTo id ⟨eD rfl rfl, eD rfl rfl, eD rfl rfl, eD rfl rfl, eD rfl rfl, trivial⟩ trivial rfl rfl rfl rfl (fun _ _ => rfl)
    · rw [hg1]
      have hg1' : ¬ (20 < ((bs.length : Nat) : Int)) := of_decide_eq_false hg1
      refine Rv rfl rfl rfl (U_move rfl) rfl rfl ?_
      refine Rv rfl rfl rfl (U_lenOf rfl len_ros) rfl rfl ?_
      refine Rv rfl rfl rfl (U_gtr rfl rfl) rfl rfl ?_
      refine Rv rfl rfl rfl (U_pick_f rfl rfl) rfl rfl ?_
      refine Re rfl ?_
      exact joinTo id ⟨eD rfl rfl, eD rfl rfl, eD rfl rfl, eD rfl rfl, eD rfl rfl, trivial⟩ trivial rfl rfl rfl rfl (fun _ _ => rfl)
  refine thenQ_n ?_
  refine Wcond rfl rfl (fun hc0 => absurd hc0 (by simp; omega)) (fun hc0 => ?_)
  refine W_skip rfl ?_
  refine thenQ_n ?_
  refine W_seq rfl ?_
  refine W_reg rfl ?_
  refine Rv rfl rfl rfl (U_move rfl) rfl rfl ?_
  refine Rv rfl rfl rfl (U_call rfl rfl (kinds_p b (by first | assumption | omega)) rfl) rfl rfl ?_
  refine Rv rfl rfl rfl (U_move rfl) rfl rfl ?_
  refine Rv rfl rfl rfl (U_rem (c := ((x % 8 : Nat) : Int)) rfl rfl (by omega) (tmodN _ _)) rfl rfl ?_
  refine Rv rfl rfl rfl (U_convInt (by rfl) rfl (wr_i64 (by omega) (by omega))) rfl rfl ?_
  refine Rv rfl rfl rfl (U_assign rfl) rfl rfl ?_
  refine Rv rfl rfl rfl (U_assign rfl) rfl rfl ?_
  refine Re rfl ?_
  refine thenQ_n ?_
  refine W_seq rfl ?_
  refine W_reg rfl ?_
  refine Rv rfl rfl rfl (U_move rfl) rfl rfl ?_
  refine Rv rfl rfl rfl (U_move rfl) rfl rfl ?_
  refine Rv rfl rfl rfl (U_call rfl rfl (planA20_p (kdsQ b) none hok ((x % 8 : Nat) : Int) hmo hA) rfl) rfl rfl ?_
  refine Rv rfl rfl rfl (U_move rfl) rfl rfl ?_
  refine Rv rfl rfl rfl (U_extract rfl rfl) rfl rfl ?_
  refine Rv rfl rfl rfl (U_extract rfl rfl) rfl rfl ?_
  refine Rv rfl rfl rfl (U_assign rfl) rfl rfl ?_
  refine Rv rfl rfl rfl (U_assign rfl) rfl rfl ?_
  refine Re rfl ?_
  refine thenQ_n ?_
  refine W_seq rfl ?_
  refine W_reg rfl ?_
  refine Rv rfl rfl rfl (U_move rfl) rfl rfl ?_
  refine Rv rfl rfl rfl (U_call rfl rfl (heightsG_p (kdsQ b) none (by assumption)) rfl) rfl rfl ?_
  refine Rv rfl rfl rfl (U_move rfl) rfl rfl ?_
  refine Rv rfl rfl rfl (U_extract rfl rfl) rfl rfl ?_
  refine Rv rfl rfl rfl (U_extract rfl rfl) rfl rfl ?_
  refine Rv rfl rfl rfl (U_assign rfl) rfl rfl ?_
  refine Rv rfl rfl rfl (U_assign rfl) rfl rfl ?_
  refine Re rfl ?_
  refine thenQ_n ?_
  refine W_seq rfl ?_
  refine W_reg rfl ?_
  refine Rv rfl rfl rfl (U_move rfl) rfl rfl ?_
  refine Rv rfl rfl rfl (U_call rfl rfl (reachedG_p (kdsQ b) none (by assumption)) rfl) rfl rfl ?_
  refine Rv rfl rfl rfl (U_move rfl) rfl rfl ?_
  refine Rv rfl rfl rfl (U_extract rfl rfl) rfl rfl ?_
  refine Rv rfl rfl rfl (U_extract rfl rfl) rfl rfl ?_
  refine Rv rfl rfl rfl (U_assign rfl) rfl rfl ?_
  refine Rv rfl rfl rfl (U_assign rfl) rfl rfl ?_
  refine Re rfl ?_
  refine thenQ_n ?_
  refine W_seq rfl ?_
  refine W_seq rfl ?_
  refine W_reg rfl ?_
  refine Rv rfl rfl rfl (U_move rfl) rfl rfl ?_
  refine Rv rfl rfl rfl (U_not rfl) rfl rfl ?_
  refine Rv rfl rfl rfl (U_move rfl) rfl rfl ?_
  refine Rv rfl rfl rfl (U_move rfl) rfl rfl ?_
  refine Rv rfl rfl rfl (U_neq rfl rfl) rfl rfl ?_
  refine Rv rfl rfl rfl (U_pick_f rfl rfl) rfl rfl ?_
  refine Rv rfl rfl rfl (U_move rfl) rfl rfl ?_
  refine Rv rfl rfl rfl (U_move rfl) rfl rfl ?_
  refine Rv rfl rfl rfl (U_lenOf rfl len_ros) rfl rfl ?_
  refine Rv rfl rfl rfl (OpU.toB (U_neq rfl rfl) (decide_eq_false (by omega))) rfl rfl ?_
  refine Rv rfl rfl rfl (U_pick_f rfl rfl) rfl rfl ?_
  refine Rv rfl rfl rfl (U_move rfl) rfl rfl ?_
  refine Rv rfl rfl rfl (U_move rfl) rfl rfl ?_
  refine Rv rfl rfl rfl (U_move rfl) rfl rfl ?_
  refine Rv rfl rfl rfl (U_call rfl rfl (chHG_p (kdsQ b) none none (by assumption)) rfl) rfl rfl ?_
  refine Rv rfl rfl rfl (U_neq rfl rfl) rfl rfl ?_
  refine Rv rfl rfl rfl (U_pick_f rfl rfl) rfl rfl ?_
  refine Rv rfl rfl rfl (U_move rfl) rfl rfl ?_
  refine Rv rfl rfl rfl (U_move rfl) rfl rfl ?_
  refine Rv rfl rfl rfl (U_move rfl) rfl rfl ?_
  refine Rv rfl rfl rfl (U_call rfl rfl (chHGR_p (kdsQ b) none none (by assumption)) rfl) rfl rfl ?_
  refine Rv rfl rfl rfl (U_neq rfl rfl) rfl rfl ?_
  refine Rv rfl rfl rfl (U_pick_f rfl rfl) rfl rfl ?_
  refine Re rfl ?_
  refine thenQ_n ?_
  refine WcondP rfl rfl (fun h => absurd h (by decide)) (fun _ => ?_)
  refine W_skip rfl ?_
  refine thenQ_n ?_
  refine W_seq rfl ?_
  refine W_reg rfl ?_
  refine Rv rfl rfl rfl (U_move rfl) rfl rfl ?_
  refine Rv rfl rfl rfl (U_move rfl) rfl rfl ?_
  refine Rv rfl rfl rfl (U_call rfl rfl (planned_p (kdsQ b) none (by first | assumption | omega | exact Sz.le | (simp; done) | (simp; omega)) bs c (by first | assumption | omega | exact Sz.le | (simp; done) | (simp; omega)) (by assumption)) rfl) rfl rfl ?_
  refine Rv rfl rfl rfl (U_assign rfl) rfl rfl ?_
  refine Re rfl ?_
  refine thenQ_n ?_
  refine W_seq rfl ?_
  refine W_reg rfl ?_
  refine Rv rfl rfl rfl (U_move rfl) rfl rfl ?_
  refine Rv rfl rfl rfl (U_move rfl) rfl rfl ?_
  refine Rv rfl rfl rfl (U_call rfl rfl (chPG_p (kdsQ b) none hok (plnN (kdsQ b) bs) none hpl hpm rfl) rfl) rfl rfl ?_
  refine Rv rfl rfl rfl (U_move rfl) rfl rfl ?_
  refine Rv rfl rfl rfl (U_extract rfl rfl) rfl rfl ?_
  refine Rv rfl rfl rfl (U_extract rfl rfl) rfl rfl ?_
  refine Rv rfl rfl rfl (U_assign rfl) rfl rfl ?_
  refine Rv rfl rfl rfl (U_assign rfl) rfl rfl ?_
  refine Re rfl ?_
  refine thenQ_n ?_
  refine W_seq rfl ?_
  refine W_seq rfl ?_
  refine W_reg rfl ?_
  refine Rv rfl rfl rfl (U_move rfl) rfl rfl ?_
  refine Rv rfl rfl rfl (U_neq rfl rfl) rfl rfl ?_
  refine Rv rfl rfl rfl (U_move rfl) rfl rfl ?_
  refine Rv rfl rfl rfl (U_move rfl) rfl rfl ?_
  refine Rv rfl rfl rfl (U_call rfl rfl (isMoG_p ((plnN (kdsQ b) bs).foldl aft 0) (by first | assumption | omega)) rfl) rfl rfl ?_
  refine Rv rfl rfl rfl (U_not rfl) rfl rfl ?_
  refine Rv rfl rfl rfl (U_pick_f rfl rfl) rfl rfl ?_
  refine Rv rfl rfl rfl (U_move rfl) rfl rfl ?_
  refine Rv rfl rfl rfl (U_move rfl) rfl rfl ?_
  refine Rv rfl rfl rfl (U_move rfl) rfl rfl ?_
  refine Rv rfl rfl rfl (U_call rfl rfl (hasT_p (reachedQ (kdsQ b)) ((plnN (kdsQ b) bs).foldl aft 0) none (by omega) (by assumption)) rfl) rfl rfl ?_
  refine Rv rfl rfl rfl (U_not rfl) rfl rfl ?_
  refine Rv rfl rfl rfl (U_pick_f rfl rfl) rfl rfl ?_
  refine Rv rfl rfl rfl (U_move rfl) rfl rfl ?_
  refine Rv rfl rfl rfl (U_move rfl) rfl rfl ?_
  refine Rv rfl rfl rfl (U_lenOf rfl len_ros) rfl rfl ?_
  refine Rv rfl rfl rfl (U_move rfl) rfl rfl ?_
  refine Rv rfl rfl rfl (U_move rfl) rfl rfl ?_
  have hx2 : ((plnN (kdsQ b) bs).foldl aft 0).toNat < (heiQ (kdsQ b)).length := by omega
  refine Rv rfl rfl rfl (U_indexR (j := ((plnN (kdsQ b) bs).foldl aft 0).toNat) rfl rfl (by omega) hx2) rfl rfl ?_
  refine Rv rfl rfl rfl (U_load1 rfl rfl (getM hx2)) rfl rfl ?_
  refine Rv rfl rfl rfl (OpU.toB (U_lss rfl rfl) (decide_eq_false (by omega))) rfl rfl ?_
  refine Rv rfl rfl rfl (U_pick_f rfl rfl) rfl rfl ?_
  refine Re rfl ?_
  refine thenQ_n ?_
  refine Wcond rfl rfl (fun h => nomatch h) (fun _ => ?_)
  refine W_skip rfl ?_
  refine thenQ_n ?_
  refine W_seq rfl ?_
  refine W_seq rfl ?_
  refine W_reg rfl ?_
  refine Rv rfl rfl rfl (U_move rfl) rfl rfl ?_
  refine Rv rfl rfl rfl (U_move rfl) rfl rfl ?_
  refine Rv rfl rfl rfl (U_call rfl rfl (chE_cases (kdsQ b) hs none d (by omega) (by omega) hC) rfl) rfl rfl ?_
  refine Rv rfl rfl rfl (U_eql rfl rfl) rfl rfl ?_
  refine Rv rfl rfl rfl (U_move rfl) rfl rfl ?_
  refine Rv rfl rfl rfl (U_move rfl) rfl rfl ?_
  refine Rv rfl rfl rfl (U_lenOf rfl len_ros) rfl rfl ?_
  refine Rv rfl rfl rfl (OpU.toB (U_neq rfl rfl) (decide_eq_false (by omega))) rfl rfl ?_
  refine Rv rfl rfl rfl (U_move rfl) rfl rfl ?_
  refine Rv rfl rfl rfl (U_move rfl) rfl rfl ?_
  refine Rv rfl rfl rfl (U_lenOf rfl len_ros) rfl rfl ?_
  refine Rv rfl rfl rfl (U_move rfl) rfl rfl ?_
  refine Rv rfl rfl rfl (U_move rfl) rfl rfl ?_
  have hx3 : ((plnN (kdsQ b) bs).foldl aft 0).toNat < hs.length := by omega
  refine Rv rfl rfl rfl (U_indexR (j := ((plnN (kdsQ b) bs).foldl aft 0).toNat) rfl rfl (by omega) hx3) rfl rfl ?_
  refine Rv rfl rfl rfl (U_load1 rfl rfl (getM hx3)) rfl rfl ?_
  refine Rv rfl rfl rfl (OpU.toB (U_lss rfl rfl) (decide_eq_false (by omega))) rfl rfl ?_
  refine Rv rfl rfl rfl (U_pick_f rfl rfl) rfl rfl ?_
  refine Rv rfl rfl rfl (U_pick_t rfl rfl) rfl rfl ?_
  refine Re rfl ?_
  refine thenQ_n ?_
  refine Wcond rfl rfl (fun h => nomatch h) (fun _ => ?_)
  refine W_skip rfl ?_
  refine thenQ_n ?_
  refine W_seq rfl ?_
  refine W_seq rfl ?_
  refine W_reg rfl ?_
  refine Rv rfl rfl rfl (U_move rfl) rfl rfl ?_
  refine Rv rfl rfl rfl (U_neq rfl rfl) rfl rfl ?_
  refine Re rfl ?_
  refine thenQ_n ?_
  refine WcondP rfl rfl (fun _ => ?_) (fun h => absurd (by decide) h)
  refine W_seq rfl ?_
  refine W_reg rfl ?_
  refine Rv rfl rfl rfl (U_move rfl) rfl rfl ?_
  refine Rv rfl rfl rfl (U_eql rfl rfl) rfl rfl ?_
  refine Rv rfl rfl rfl (U_move rfl) rfl rfl ?_
  refine Rv rfl rfl rfl (U_move rfl) rfl rfl ?_
  refine Rv rfl rfl rfl (U_lenOf rfl len_ros) rfl rfl ?_
  refine Rv rfl rfl rfl (OpU.toB (U_eql rfl rfl) (decide_eq_true (by simp))) rfl rfl ?_
  refine Rv rfl rfl rfl (U_pick_t rfl rfl) rfl rfl ?_
  refine Rv rfl rfl rfl (U_move rfl) rfl rfl ?_
  refine Rv rfl rfl rfl (U_move rfl) rfl rfl ?_
  refine Rv rfl rfl rfl (U_move rfl) rfl rfl ?_
  refine Rv rfl rfl rfl (U_call rfl rfl (hasF_p (reachedQ (kdsQ b)) ((x % 8 : Nat) : Int) none (by omega) (fun h => (reached_iff hx8).1 h hA)) rfl) rfl rfl ?_
  refine Rv rfl rfl rfl (U_not rfl) rfl rfl ?_
  refine Rv rfl rfl rfl (U_pick_t rfl rfl) rfl rfl ?_
  refine Rv rfl rfl rfl (U_move rfl) rfl rfl ?_
  refine Rv rfl rfl rfl (U_move rfl) rfl rfl ?_
  refine Rv rfl rfl rfl (U_move rfl) rfl rfl ?_
  have hx4 : (x % 8) < (heiQ (kdsQ b)).length := by omega
  refine Rv rfl rfl rfl (U_indexR (j := (x % 8)) rfl rfl rfl hx4) rfl rfl ?_
  refine Rv rfl rfl rfl (U_load1 rfl rfl (getM hx4)) rfl rfl ?_
  refine Rv rfl rfl rfl (OpU.toB (U_eql rfl rfl) (decide_eq_true (by omega))) rfl rfl ?_
  refine Rv rfl rfl rfl (U_pick_t rfl rfl) rfl rfl ?_
  refine Rv rfl rfl rfl (U_move rfl) rfl rfl ?_
  refine Rv rfl rfl rfl (U_call rfl rfl (works_p) rfl) rfl rfl ?_
  refine Rv rfl rfl rfl (U_pick_t rfl rfl) rfl rfl ?_
  refine Rv rfl rfl rfl (U_assign rfl) rfl rfl ?_
  refine Re rfl ?_
  refine thenQ_n ?_
  refine W_ret rfl ?_
  refine thenQ_r ?_
  exact retL (rlT rfl rl0) rfl rfl
theorem plateProved10_p (b x : Nat) (bs : List Nat) (hs : List Int) (c d : Option Nat) (hb8 : b < 256) (hx256 : x < 256) (hbb : ∀ y ∈ bs, y < 256) (hb20 : bs.length ≤ 20) (hh20 : hs.length ≤ 20) (hA : geN (heiQ (kdsQ b)) (((x % 8 : Nat) : Int)).toNat = 20) (hC : chE (kdsQ b) hs ≠ 0) : Pure Try.prog 9 [.int .u8 (b : Nat), .int .u8 (x : Nat), bytesA bs c, intsA hs d] (.bool true) := by
  have hok := kds_ok b
  obtain ⟨hr0, hr8⟩ := reached_len (ks := kdsQ b)
  have h8 := (heiQ_ok (ks := kdsQ b)).len
  have hmo : 0 ≤ ((x % 8 : Nat) : Int) ∧ ((x % 8 : Nat) : Int) < 8 := by omega
  have hpm : ∀ y ∈ (plnN (kdsQ b) bs), y ∈ kdsQ b := fun y hy => plnN_mem hy
  have hpl : (plnN (kdsQ b) bs).length ≤ 20 := Nat.le_trans plnN_len hb20
  have hkl := okK_len hok
  have hm1 := pl_G hok hpm
  have hmi := reached_in hm1
  have hlow := hei_low hok hpm (by omega)
  have hx8 : x % 8 < 8 := Nat.mod_lt x (by decide)
  have hgx : geN (heiQ (kdsQ b)) (x % 8) = 20 := hA
  rw [geN_get (by omega)] at hgx
  refine pure_of_body Try.func9 (c := body Try.f9) rfl (by simp [Try.ntmps9]) fun w0 Φ0 => ?_
  refine W_seq rfl ?_
  refine W_reg rfl ?_
  refine Rv rfl rfl rfl (U_assign rfl) rfl rfl ?_
  refine Re rfl ?_
  refine thenQ_n ?_
  refine W_seq rfl ?_
  refine W_seq rfl ?_
  refine Wjoin ⟨[(0, .int .u8 ((b : Nat) : Int)), (1, .int .u8 ((x : Nat) : Int)), (2, .ros (bs.map b8) bs.length c), (3, .ros (hs.map i64) hs.length d), (31, .bool ((decide (20 < ((bs.length : Nat) : Int))) || (decide (20 < ((hs.length : Nat) : Int)))))], [], 0, []⟩ ?_ ?_
  · refine W_reg rfl ?_
    refine Rv rfl rfl rfl (U_move rfl) rfl rfl ?_
    refine Rv rfl rfl rfl (U_lenOf rfl len_ros) rfl rfl ?_
    refine Rv rfl rfl rfl (U_gtr rfl rfl) rfl rfl ?_
    refine Rv rfl rfl rfl (U_move rfl) rfl rfl ?_
    refine Rsplit (t := 27) rfl (fun hg1 => ?_) (fun hg1 => ?_)
    · rw [hg1]
      have hg1' : 20 < ((bs.length : Nat) : Int) := of_decide_eq_true hg1
      refine Rs rfl rfl rfl rfl rfl ?_
      refine Rs rfl rfl rfl rfl rfl ?_
      refine Rs rfl rfl rfl rfl rfl ?_
      refine Rv rfl rfl rfl (U_pick_t rfl rfl) rfl rfl ?_
      refine Re rfl ?_
      exact joinTo id ⟨eD rfl rfl, eD rfl rfl, eD rfl rfl, eD rfl rfl, eD rfl rfl, trivial⟩ trivial rfl rfl rfl rfl (fun _ _ => rfl)
    · rw [hg1]
      have hg1' : ¬ (20 < ((bs.length : Nat) : Int)) := of_decide_eq_false hg1
      refine Rv rfl rfl rfl (U_move rfl) rfl rfl ?_
      refine Rv rfl rfl rfl (U_lenOf rfl len_ros) rfl rfl ?_
      refine Rv rfl rfl rfl (U_gtr rfl rfl) rfl rfl ?_
      refine Rv rfl rfl rfl (U_pick_f rfl rfl) rfl rfl ?_
      refine Re rfl ?_
      exact joinTo id ⟨eD rfl rfl, eD rfl rfl, eD rfl rfl, eD rfl rfl, eD rfl rfl, trivial⟩ trivial rfl rfl rfl rfl (fun _ _ => rfl)
  refine thenQ_n ?_
  refine Wcond rfl rfl (fun hc0 => absurd hc0 (by simp; omega)) (fun hc0 => ?_)
  refine W_skip rfl ?_
  refine thenQ_n ?_
  refine W_seq rfl ?_
  refine W_reg rfl ?_
  refine Rv rfl rfl rfl (U_move rfl) rfl rfl ?_
  refine Rv rfl rfl rfl (U_call rfl rfl (kinds_p b (by first | assumption | omega)) rfl) rfl rfl ?_
  refine Rv rfl rfl rfl (U_move rfl) rfl rfl ?_
  refine Rv rfl rfl rfl (U_rem (c := ((x % 8 : Nat) : Int)) rfl rfl (by omega) (tmodN _ _)) rfl rfl ?_
  refine Rv rfl rfl rfl (U_convInt (by rfl) rfl (wr_i64 (by omega) (by omega))) rfl rfl ?_
  refine Rv rfl rfl rfl (U_assign rfl) rfl rfl ?_
  refine Rv rfl rfl rfl (U_assign rfl) rfl rfl ?_
  refine Re rfl ?_
  refine thenQ_n ?_
  refine W_seq rfl ?_
  refine W_reg rfl ?_
  refine Rv rfl rfl rfl (U_move rfl) rfl rfl ?_
  refine Rv rfl rfl rfl (U_move rfl) rfl rfl ?_
  refine Rv rfl rfl rfl (U_call rfl rfl (planA20_p (kdsQ b) none hok ((x % 8 : Nat) : Int) hmo hA) rfl) rfl rfl ?_
  refine Rv rfl rfl rfl (U_move rfl) rfl rfl ?_
  refine Rv rfl rfl rfl (U_extract rfl rfl) rfl rfl ?_
  refine Rv rfl rfl rfl (U_extract rfl rfl) rfl rfl ?_
  refine Rv rfl rfl rfl (U_assign rfl) rfl rfl ?_
  refine Rv rfl rfl rfl (U_assign rfl) rfl rfl ?_
  refine Re rfl ?_
  refine thenQ_n ?_
  refine W_seq rfl ?_
  refine W_reg rfl ?_
  refine Rv rfl rfl rfl (U_move rfl) rfl rfl ?_
  refine Rv rfl rfl rfl (U_call rfl rfl (heightsG_p (kdsQ b) none (by assumption)) rfl) rfl rfl ?_
  refine Rv rfl rfl rfl (U_move rfl) rfl rfl ?_
  refine Rv rfl rfl rfl (U_extract rfl rfl) rfl rfl ?_
  refine Rv rfl rfl rfl (U_extract rfl rfl) rfl rfl ?_
  refine Rv rfl rfl rfl (U_assign rfl) rfl rfl ?_
  refine Rv rfl rfl rfl (U_assign rfl) rfl rfl ?_
  refine Re rfl ?_
  refine thenQ_n ?_
  refine W_seq rfl ?_
  refine W_reg rfl ?_
  refine Rv rfl rfl rfl (U_move rfl) rfl rfl ?_
  refine Rv rfl rfl rfl (U_call rfl rfl (reachedG_p (kdsQ b) none (by assumption)) rfl) rfl rfl ?_
  refine Rv rfl rfl rfl (U_move rfl) rfl rfl ?_
  refine Rv rfl rfl rfl (U_extract rfl rfl) rfl rfl ?_
  refine Rv rfl rfl rfl (U_extract rfl rfl) rfl rfl ?_
  refine Rv rfl rfl rfl (U_assign rfl) rfl rfl ?_
  refine Rv rfl rfl rfl (U_assign rfl) rfl rfl ?_
  refine Re rfl ?_
  refine thenQ_n ?_
  refine W_seq rfl ?_
  refine W_seq rfl ?_
  refine W_reg rfl ?_
  refine Rv rfl rfl rfl (U_move rfl) rfl rfl ?_
  refine Rv rfl rfl rfl (U_not rfl) rfl rfl ?_
  refine Rv rfl rfl rfl (U_move rfl) rfl rfl ?_
  refine Rv rfl rfl rfl (U_move rfl) rfl rfl ?_
  refine Rv rfl rfl rfl (U_neq rfl rfl) rfl rfl ?_
  refine Rv rfl rfl rfl (U_pick_f rfl rfl) rfl rfl ?_
  refine Rv rfl rfl rfl (U_move rfl) rfl rfl ?_
  refine Rv rfl rfl rfl (U_move rfl) rfl rfl ?_
  refine Rv rfl rfl rfl (U_lenOf rfl len_ros) rfl rfl ?_
  refine Rv rfl rfl rfl (OpU.toB (U_neq rfl rfl) (decide_eq_false (by omega))) rfl rfl ?_
  refine Rv rfl rfl rfl (U_pick_f rfl rfl) rfl rfl ?_
  refine Rv rfl rfl rfl (U_move rfl) rfl rfl ?_
  refine Rv rfl rfl rfl (U_move rfl) rfl rfl ?_
  refine Rv rfl rfl rfl (U_move rfl) rfl rfl ?_
  refine Rv rfl rfl rfl (U_call rfl rfl (chHG_p (kdsQ b) none none (by assumption)) rfl) rfl rfl ?_
  refine Rv rfl rfl rfl (U_neq rfl rfl) rfl rfl ?_
  refine Rv rfl rfl rfl (U_pick_f rfl rfl) rfl rfl ?_
  refine Rv rfl rfl rfl (U_move rfl) rfl rfl ?_
  refine Rv rfl rfl rfl (U_move rfl) rfl rfl ?_
  refine Rv rfl rfl rfl (U_move rfl) rfl rfl ?_
  refine Rv rfl rfl rfl (U_call rfl rfl (chHGR_p (kdsQ b) none none (by assumption)) rfl) rfl rfl ?_
  refine Rv rfl rfl rfl (U_neq rfl rfl) rfl rfl ?_
  refine Rv rfl rfl rfl (U_pick_f rfl rfl) rfl rfl ?_
  refine Re rfl ?_
  refine thenQ_n ?_
  refine WcondP rfl rfl (fun h => absurd h (by decide)) (fun _ => ?_)
  refine W_skip rfl ?_
  refine thenQ_n ?_
  refine W_seq rfl ?_
  refine W_reg rfl ?_
  refine Rv rfl rfl rfl (U_move rfl) rfl rfl ?_
  refine Rv rfl rfl rfl (U_move rfl) rfl rfl ?_
  refine Rv rfl rfl rfl (U_call rfl rfl (planned_p (kdsQ b) none (by first | assumption | omega | exact Sz.le | (simp; done) | (simp; omega)) bs c (by first | assumption | omega | exact Sz.le | (simp; done) | (simp; omega)) (by assumption)) rfl) rfl rfl ?_
  refine Rv rfl rfl rfl (U_assign rfl) rfl rfl ?_
  refine Re rfl ?_
  refine thenQ_n ?_
  refine W_seq rfl ?_
  refine W_reg rfl ?_
  refine Rv rfl rfl rfl (U_move rfl) rfl rfl ?_
  refine Rv rfl rfl rfl (U_move rfl) rfl rfl ?_
  refine Rv rfl rfl rfl (U_call rfl rfl (chPG_p (kdsQ b) none hok (plnN (kdsQ b) bs) none hpl hpm rfl) rfl) rfl rfl ?_
  refine Rv rfl rfl rfl (U_move rfl) rfl rfl ?_
  refine Rv rfl rfl rfl (U_extract rfl rfl) rfl rfl ?_
  refine Rv rfl rfl rfl (U_extract rfl rfl) rfl rfl ?_
  refine Rv rfl rfl rfl (U_assign rfl) rfl rfl ?_
  refine Rv rfl rfl rfl (U_assign rfl) rfl rfl ?_
  refine Re rfl ?_
  refine thenQ_n ?_
  refine W_seq rfl ?_
  refine W_seq rfl ?_
  refine W_reg rfl ?_
  refine Rv rfl rfl rfl (U_move rfl) rfl rfl ?_
  refine Rv rfl rfl rfl (U_neq rfl rfl) rfl rfl ?_
  refine Rv rfl rfl rfl (U_move rfl) rfl rfl ?_
  refine Rv rfl rfl rfl (U_move rfl) rfl rfl ?_
  refine Rv rfl rfl rfl (U_call rfl rfl (isMoG_p ((plnN (kdsQ b) bs).foldl aft 0) (by first | assumption | omega)) rfl) rfl rfl ?_
  refine Rv rfl rfl rfl (U_not rfl) rfl rfl ?_
  refine Rv rfl rfl rfl (U_pick_f rfl rfl) rfl rfl ?_
  refine Rv rfl rfl rfl (U_move rfl) rfl rfl ?_
  refine Rv rfl rfl rfl (U_move rfl) rfl rfl ?_
  refine Rv rfl rfl rfl (U_move rfl) rfl rfl ?_
  refine Rv rfl rfl rfl (U_call rfl rfl (hasT_p (reachedQ (kdsQ b)) ((plnN (kdsQ b) bs).foldl aft 0) none (by omega) (by assumption)) rfl) rfl rfl ?_
  refine Rv rfl rfl rfl (U_not rfl) rfl rfl ?_
  refine Rv rfl rfl rfl (U_pick_f rfl rfl) rfl rfl ?_
  refine Rv rfl rfl rfl (U_move rfl) rfl rfl ?_
  refine Rv rfl rfl rfl (U_move rfl) rfl rfl ?_
  refine Rv rfl rfl rfl (U_lenOf rfl len_ros) rfl rfl ?_
  refine Rv rfl rfl rfl (U_move rfl) rfl rfl ?_
  refine Rv rfl rfl rfl (U_move rfl) rfl rfl ?_
  have hx2 : ((plnN (kdsQ b) bs).foldl aft 0).toNat < (heiQ (kdsQ b)).length := by omega
  refine Rv rfl rfl rfl (U_indexR (j := ((plnN (kdsQ b) bs).foldl aft 0).toNat) rfl rfl (by omega) hx2) rfl rfl ?_
  refine Rv rfl rfl rfl (U_load1 rfl rfl (getM hx2)) rfl rfl ?_
  refine Rv rfl rfl rfl (OpU.toB (U_lss rfl rfl) (decide_eq_false (by omega))) rfl rfl ?_
  refine Rv rfl rfl rfl (U_pick_f rfl rfl) rfl rfl ?_
  refine Re rfl ?_
  refine thenQ_n ?_
  refine Wcond rfl rfl (fun h => nomatch h) (fun _ => ?_)
  refine W_skip rfl ?_
  refine thenQ_n ?_
  refine W_seq rfl ?_
  refine W_seq rfl ?_
  refine W_reg rfl ?_
  refine Rv rfl rfl rfl (U_move rfl) rfl rfl ?_
  refine Rv rfl rfl rfl (U_move rfl) rfl rfl ?_
  refine Rv rfl rfl rfl (U_call rfl rfl (checkHeights_p (kdsQ b) none (by omega) hs d (by omega)) rfl) rfl rfl ?_
  refine Rv rfl rfl rfl (OpU.toB (U_eql rfl rfl) (decide_eq_false hC)) rfl rfl ?_
  refine Rv rfl rfl rfl (U_move rfl) rfl rfl ?_
  refine Rs rfl rfl rfl rfl rfl ?_
  refine Rs rfl rfl rfl rfl rfl ?_
  refine Rs rfl rfl rfl rfl rfl ?_
  refine Rs rfl rfl rfl rfl rfl ?_
  refine Rs rfl rfl rfl rfl rfl ?_
  refine Rs rfl rfl rfl rfl rfl ?_
  refine Rs rfl rfl rfl rfl rfl ?_
  refine Rs rfl rfl rfl rfl rfl ?_
  refine Rs rfl rfl rfl rfl rfl ?_
  refine Rs rfl rfl rfl rfl rfl ?_
  refine Rs rfl rfl rfl rfl rfl ?_
  refine Rs rfl rfl rfl rfl rfl ?_
  refine Rv rfl rfl rfl (U_pick_f rfl rfl) rfl rfl ?_
  refine Re rfl ?_
  refine thenQ_n ?_
  refine Wcond rfl rfl (fun h => nomatch h) (fun _ => ?_)
  refine W_skip rfl ?_
  refine thenQ_n ?_
  refine W_seq rfl ?_
  refine W_seq rfl ?_
  refine W_reg rfl ?_
  refine Rv rfl rfl rfl (U_move rfl) rfl rfl ?_
  refine Rv rfl rfl rfl (U_neq rfl rfl) rfl rfl ?_
  refine Re rfl ?_
  refine thenQ_n ?_
  refine WcondP rfl rfl (fun _ => ?_) (fun h => absurd (by decide) h)
  refine W_seq rfl ?_
  refine W_reg rfl ?_
  refine Rv rfl rfl rfl (U_move rfl) rfl rfl ?_
  refine Rv rfl rfl rfl (U_eql rfl rfl) rfl rfl ?_
  refine Rv rfl rfl rfl (U_move rfl) rfl rfl ?_
  refine Rv rfl rfl rfl (U_move rfl) rfl rfl ?_
  refine Rv rfl rfl rfl (U_lenOf rfl len_ros) rfl rfl ?_
  refine Rv rfl rfl rfl (OpU.toB (U_eql rfl rfl) (decide_eq_true (by simp))) rfl rfl ?_
  refine Rv rfl rfl rfl (U_pick_t rfl rfl) rfl rfl ?_
  refine Rv rfl rfl rfl (U_move rfl) rfl rfl ?_
  refine Rv rfl rfl rfl (U_move rfl) rfl rfl ?_
  refine Rv rfl rfl rfl (U_move rfl) rfl rfl ?_
  refine Rv rfl rfl rfl (U_call rfl rfl (hasF_p (reachedQ (kdsQ b)) ((x % 8 : Nat) : Int) none (by omega) (fun h => (reached_iff hx8).1 h hA)) rfl) rfl rfl ?_
  refine Rv rfl rfl rfl (U_not rfl) rfl rfl ?_
  refine Rv rfl rfl rfl (U_pick_t rfl rfl) rfl rfl ?_
  refine Rv rfl rfl rfl (U_move rfl) rfl rfl ?_
  refine Rv rfl rfl rfl (U_move rfl) rfl rfl ?_
  refine Rv rfl rfl rfl (U_move rfl) rfl rfl ?_
  have hx3 : (x % 8) < (heiQ (kdsQ b)).length := by omega
  refine Rv rfl rfl rfl (U_indexR (j := (x % 8)) rfl rfl rfl hx3) rfl rfl ?_
  refine Rv rfl rfl rfl (U_load1 rfl rfl (getM hx3)) rfl rfl ?_
  refine Rv rfl rfl rfl (OpU.toB (U_eql rfl rfl) (decide_eq_true (by omega))) rfl rfl ?_
  refine Rv rfl rfl rfl (U_pick_t rfl rfl) rfl rfl ?_
  refine Rv rfl rfl rfl (U_move rfl) rfl rfl ?_
  refine Rv rfl rfl rfl (U_call rfl rfl (works_p) rfl) rfl rfl ?_
  refine Rv rfl rfl rfl (U_pick_t rfl rfl) rfl rfl ?_
  refine Rv rfl rfl rfl (U_assign rfl) rfl rfl ?_
  refine Re rfl ?_
  refine thenQ_n ?_
  refine W_ret rfl ?_
  refine thenQ_r ?_
  exact retL (rlT rfl rl0) rfl rfl
theorem plateProved01_p (b x : Nat) (bs : List Nat) (hs : List Int) (c d : Option Nat) (hb8 : b < 256) (hx256 : x < 256) (hbb : ∀ y ∈ bs, y < 256) (hb20 : bs.length ≤ 20) (hh20 : hs.length ≤ 20) (hA : geN (heiQ (kdsQ b)) (((x % 8 : Nat) : Int)).toNat ≠ 20) (hC : chE (kdsQ b) hs = 0) : Pure Try.prog 9 [.int .u8 (b : Nat), .int .u8 (x : Nat), bytesA bs c, intsA hs d] (.bool true) := by
  have hok := kds_ok b
  obtain ⟨hr0, hr8⟩ := reached_len (ks := kdsQ b)
  have h8 := (heiQ_ok (ks := kdsQ b)).len
  have hmo : 0 ≤ ((x % 8 : Nat) : Int) ∧ ((x % 8 : Nat) : Int) < 8 := by omega
  have hpm : ∀ y ∈ (plnN (kdsQ b) bs), y ∈ kdsQ b := fun y hy => plnN_mem hy
  have hpl : (plnN (kdsQ b) bs).length ≤ 20 := Nat.le_trans plnN_len hb20
  have hkl := okK_len hok
  have hm1 := pl_G hok hpm
  have hmi := reached_in hm1
  have hlow := hei_low hok hpm (by omega)
  have hx8 : x % 8 < 8 := Nat.mod_lt x (by decide)
  have hcl := (chE_ok hC).1
  have hcm := right_low hok hC hpm
  rw [getDI (by omega)] at hcm
  obtain ⟨hq1, hqm, hqf⟩ := plQ_facts hok hmo hA
  have hgx : (plQ (kdsQ b) ((x % 8 : Nat) : Int)).length = geN (heiQ (kdsQ b)) (x % 8) := hq1
  have hgb := hei_4 hok hx8 hA
  have hql : (plQ (kdsQ b) ((x % 8 : Nat) : Int)).length ≤ 20 := by omega
  rw [geN_get (by omega)] at hgx
  refine pure_of_body Try.func9 (c := body Try.f9) rfl (by simp [Try.ntmps9]) fun w0 Φ0 => ?_
  refine W_seq rfl ?_
  refine W_reg rfl ?_
  refine Rv rfl rfl rfl (U_assign rfl) rfl rfl ?_
  refine Re rfl ?_
  refine thenQ_n ?_
  refine W_seq rfl ?_
  refine W_seq rfl ?_
  refine Wjoin ⟨[(0, .int .u8 ((b : Nat) : Int)), (1, .int .u8 ((x : Nat) : Int)), (2, .ros (bs.map b8) bs.length c), (3, .ros (hs.map i64) hs.length d), (31, .bool ((decide (20 < ((bs.length : Nat) : Int))) || (decide (20 < ((hs.length : Nat) : Int)))))], [], 0, []⟩ ?_ ?_
  · refine W_reg rfl ?_
    refine Rv rfl rfl rfl (U_move rfl) rfl rfl ?_
    refine Rv rfl rfl rfl (U_lenOf rfl len_ros) rfl rfl ?_
    refine Rv rfl rfl rfl (U_gtr rfl rfl) rfl rfl ?_
    refine Rv rfl rfl rfl (U_move rfl) rfl rfl ?_
    refine Rsplit (t := 27) rfl (fun hg1 => ?_) (fun hg1 => ?_)
    · rw [hg1]
      have hg1' : 20 < ((bs.length : Nat) : Int) := of_decide_eq_true hg1
      refine Rs rfl rfl rfl rfl rfl ?_
      refine Rs rfl rfl rfl rfl rfl ?_
      refine Rs rfl rfl rfl rfl rfl ?_
      refine Rv rfl rfl rfl (U_pick_t rfl rfl) rfl rfl ?_
      refine Re rfl ?_
      exact joinTo id ⟨eD rfl rfl, eD rfl rfl, eD rfl rfl, eD rfl rfl, eD rfl rfl, trivial⟩ trivial rfl rfl rfl rfl (fun _ _ => rfl)
    · rw [hg1]
      have hg1' : ¬ (20 < ((bs.length : Nat) : Int)) := of_decide_eq_false hg1
      refine Rv rfl rfl rfl (U_move rfl) rfl rfl ?_
      refine Rv rfl rfl rfl (U_lenOf rfl len_ros) rfl rfl ?_
      refine Rv rfl rfl rfl (U_gtr rfl rfl) rfl rfl ?_
      refine Rv rfl rfl rfl (U_pick_f rfl rfl) rfl rfl ?_
      refine Re rfl ?_
      exact joinTo id ⟨eD rfl rfl, eD rfl rfl, eD rfl rfl, eD rfl rfl, eD rfl rfl, trivial⟩ trivial rfl rfl rfl rfl (fun _ _ => rfl)
  refine thenQ_n ?_
  refine Wcond rfl rfl (fun hc0 => absurd hc0 (by simp; omega)) (fun hc0 => ?_)
  refine W_skip rfl ?_
  refine thenQ_n ?_
  refine W_seq rfl ?_
  refine W_reg rfl ?_
  refine Rv rfl rfl rfl (U_move rfl) rfl rfl ?_
  refine Rv rfl rfl rfl (U_call rfl rfl (kinds_p b (by first | assumption | omega)) rfl) rfl rfl ?_
  refine Rv rfl rfl rfl (U_move rfl) rfl rfl ?_
  refine Rv rfl rfl rfl (U_rem (c := ((x % 8 : Nat) : Int)) rfl rfl (by omega) (tmodN _ _)) rfl rfl ?_
  refine Rv rfl rfl rfl (U_convInt (by rfl) rfl (wr_i64 (by omega) (by omega))) rfl rfl ?_
  refine Rv rfl rfl rfl (U_assign rfl) rfl rfl ?_
  refine Rv rfl rfl rfl (U_assign rfl) rfl rfl ?_
  refine Re rfl ?_
  refine thenQ_n ?_
  refine W_seq rfl ?_
  refine W_reg rfl ?_
  refine Rv rfl rfl rfl (U_move rfl) rfl rfl ?_
  refine Rv rfl rfl rfl (U_move rfl) rfl rfl ?_
  refine Rv rfl rfl rfl (U_call rfl rfl (planAQ_p (kdsQ b) none hok ((x % 8 : Nat) : Int) hmo hA) rfl) rfl rfl ?_
  refine Rv rfl rfl rfl (U_move rfl) rfl rfl ?_
  refine Rv rfl rfl rfl (U_extract rfl rfl) rfl rfl ?_
  refine Rv rfl rfl rfl (U_extract rfl rfl) rfl rfl ?_
  refine Rv rfl rfl rfl (U_assign rfl) rfl rfl ?_
  refine Rv rfl rfl rfl (U_assign rfl) rfl rfl ?_
  refine Re rfl ?_
  refine thenQ_n ?_
  refine W_seq rfl ?_
  refine W_reg rfl ?_
  refine Rv rfl rfl rfl (U_move rfl) rfl rfl ?_
  refine Rv rfl rfl rfl (U_call rfl rfl (heightsG_p (kdsQ b) none (by assumption)) rfl) rfl rfl ?_
  refine Rv rfl rfl rfl (U_move rfl) rfl rfl ?_
  refine Rv rfl rfl rfl (U_extract rfl rfl) rfl rfl ?_
  refine Rv rfl rfl rfl (U_extract rfl rfl) rfl rfl ?_
  refine Rv rfl rfl rfl (U_assign rfl) rfl rfl ?_
  refine Rv rfl rfl rfl (U_assign rfl) rfl rfl ?_
  refine Re rfl ?_
  refine thenQ_n ?_
  refine W_seq rfl ?_
  refine W_reg rfl ?_
  refine Rv rfl rfl rfl (U_move rfl) rfl rfl ?_
  refine Rv rfl rfl rfl (U_call rfl rfl (reachedG_p (kdsQ b) none (by assumption)) rfl) rfl rfl ?_
  refine Rv rfl rfl rfl (U_move rfl) rfl rfl ?_
  refine Rv rfl rfl rfl (U_extract rfl rfl) rfl rfl ?_
  refine Rv rfl rfl rfl (U_extract rfl rfl) rfl rfl ?_
  refine Rv rfl rfl rfl (U_assign rfl) rfl rfl ?_
  refine Rv rfl rfl rfl (U_assign rfl) rfl rfl ?_
  refine Re rfl ?_
  refine thenQ_n ?_
  refine W_seq rfl ?_
  refine W_seq rfl ?_
  refine W_reg rfl ?_
  refine Rv rfl rfl rfl (U_move rfl) rfl rfl ?_
  refine Rv rfl rfl rfl (U_not rfl) rfl rfl ?_
  refine Rv rfl rfl rfl (U_move rfl) rfl rfl ?_
  refine Rv rfl rfl rfl (U_move rfl) rfl rfl ?_
  refine Rv rfl rfl rfl (U_neq rfl rfl) rfl rfl ?_
  refine Rv rfl rfl rfl (U_pick_f rfl rfl) rfl rfl ?_
  refine Rv rfl rfl rfl (U_move rfl) rfl rfl ?_
  refine Rv rfl rfl rfl (U_move rfl) rfl rfl ?_
  refine Rv rfl rfl rfl (U_lenOf rfl len_ros) rfl rfl ?_
  refine Rv rfl rfl rfl (OpU.toB (U_neq rfl rfl) (decide_eq_false (by omega))) rfl rfl ?_
  refine Rv rfl rfl rfl (U_pick_f rfl rfl) rfl rfl ?_
  refine Rv rfl rfl rfl (U_move rfl) rfl rfl ?_
  refine Rv rfl rfl rfl (U_move rfl) rfl rfl ?_
  refine Rv rfl rfl rfl (U_move rfl) rfl rfl ?_
  refine Rv rfl rfl rfl (U_call rfl rfl (chHG_p (kdsQ b) none none (by assumption)) rfl) rfl rfl ?_
  refine Rv rfl rfl rfl (U_neq rfl rfl) rfl rfl ?_
  refine Rv rfl rfl rfl (U_pick_f rfl rfl) rfl rfl ?_
  refine Rv rfl rfl rfl (U_move rfl) rfl rfl ?_
  refine Rv rfl rfl rfl (U_move rfl) rfl rfl ?_
  refine Rv rfl rfl rfl (U_move rfl) rfl rfl ?_
  refine Rv rfl rfl rfl (U_call rfl rfl (chHGR_p (kdsQ b) none none (by assumption)) rfl) rfl rfl ?_
  refine Rv rfl rfl rfl (U_neq rfl rfl) rfl rfl ?_
  refine Rv rfl rfl rfl (U_pick_f rfl rfl) rfl rfl ?_
  refine Re rfl ?_
  refine thenQ_n ?_
  refine WcondP rfl rfl (fun h => absurd h (by decide)) (fun _ => ?_)
  refine W_skip rfl ?_
  refine thenQ_n ?_
  refine W_seq rfl ?_
  refine W_reg rfl ?_
  refine Rv rfl rfl rfl (U_move rfl) rfl rfl ?_
  refine Rv rfl rfl rfl (U_move rfl) rfl rfl ?_
  refine Rv rfl rfl rfl (U_call rfl rfl (planned_p (kdsQ b) none (by first | assumption | omega | exact Sz.le | (simp; done) | (simp; omega)) bs c (by first | assumption | omega | exact Sz.le | (simp; done) | (simp; omega)) (by assumption)) rfl) rfl rfl ?_
  refine Rv rfl rfl rfl (U_assign rfl) rfl rfl ?_
  refine Re rfl ?_
  refine thenQ_n ?_
  refine W_seq rfl ?_
  refine W_reg rfl ?_
  refine Rv rfl rfl rfl (U_move rfl) rfl rfl ?_
  refine Rv rfl rfl rfl (U_move rfl) rfl rfl ?_
  refine Rv rfl rfl rfl (U_call rfl rfl (chPG_p (kdsQ b) none hok (plnN (kdsQ b) bs) none hpl hpm rfl) rfl) rfl rfl ?_
  refine Rv rfl rfl rfl (U_move rfl) rfl rfl ?_
  refine Rv rfl rfl rfl (U_extract rfl rfl) rfl rfl ?_
  refine Rv rfl rfl rfl (U_extract rfl rfl) rfl rfl ?_
  refine Rv rfl rfl rfl (U_assign rfl) rfl rfl ?_
  refine Rv rfl rfl rfl (U_assign rfl) rfl rfl ?_
  refine Re rfl ?_
  refine thenQ_n ?_
  refine W_seq rfl ?_
  refine W_seq rfl ?_
  refine W_reg rfl ?_
  refine Rv rfl rfl rfl (U_move rfl) rfl rfl ?_
  refine Rv rfl rfl rfl (U_neq rfl rfl) rfl rfl ?_
  refine Rv rfl rfl rfl (U_move rfl) rfl rfl ?_
  refine Rv rfl rfl rfl (U_move rfl) rfl rfl ?_
  refine Rv rfl rfl rfl (U_call rfl rfl (isMoG_p ((plnN (kdsQ b) bs).foldl aft 0) (by first | assumption | omega)) rfl) rfl rfl ?_
  refine Rv rfl rfl rfl (U_not rfl) rfl rfl ?_
  refine Rv rfl rfl rfl (U_pick_f rfl rfl) rfl rfl ?_
  refine Rv rfl rfl rfl (U_move rfl) rfl rfl ?_
  refine Rv rfl rfl rfl (U_move rfl) rfl rfl ?_
  refine Rv rfl rfl rfl (U_move rfl) rfl rfl ?_
  refine Rv rfl rfl rfl (U_call rfl rfl (hasT_p (reachedQ (kdsQ b)) ((plnN (kdsQ b) bs).foldl aft 0) none (by omega) (by assumption)) rfl) rfl rfl ?_
  refine Rv rfl rfl rfl (U_not rfl) rfl rfl ?_
  refine Rv rfl rfl rfl (U_pick_f rfl rfl) rfl rfl ?_
  refine Rv rfl rfl rfl (U_move rfl) rfl rfl ?_
  refine Rv rfl rfl rfl (U_move rfl) rfl rfl ?_
  refine Rv rfl rfl rfl (U_lenOf rfl len_ros) rfl rfl ?_
  refine Rv rfl rfl rfl (U_move rfl) rfl rfl ?_
  refine Rv rfl rfl rfl (U_move rfl) rfl rfl ?_
  have hx2 : ((plnN (kdsQ b) bs).foldl aft 0).toNat < (heiQ (kdsQ b)).length := by omega
  refine Rv rfl rfl rfl (U_indexR (j := ((plnN (kdsQ b) bs).foldl aft 0).toNat) rfl rfl (by omega) hx2) rfl rfl ?_
  refine Rv rfl rfl rfl (U_load1 rfl rfl (getM hx2)) rfl rfl ?_
  refine Rv rfl rfl rfl (OpU.toB (U_lss rfl rfl) (decide_eq_false (by omega))) rfl rfl ?_
  refine Rv rfl rfl rfl (U_pick_f rfl rfl) rfl rfl ?_
  refine Re rfl ?_
  refine thenQ_n ?_
  refine Wcond rfl rfl (fun h => nomatch h) (fun _ => ?_)
  refine W_skip rfl ?_
  refine thenQ_n ?_
  refine W_seq rfl ?_
  refine W_seq rfl ?_
  refine W_reg rfl ?_
  refine Rv rfl rfl rfl (U_move rfl) rfl rfl ?_
  refine Rv rfl rfl rfl (U_move rfl) rfl rfl ?_
  refine Rv rfl rfl rfl (U_call rfl rfl (chE_cases (kdsQ b) hs none d (by omega) (by omega) hC) rfl) rfl rfl ?_
  refine Rv rfl rfl rfl (U_eql rfl rfl) rfl rfl ?_
  refine Rv rfl rfl rfl (U_move rfl) rfl rfl ?_
  refine Rv rfl rfl rfl (U_move rfl) rfl rfl ?_
  refine Rv rfl rfl rfl (U_lenOf rfl len_ros) rfl rfl ?_
  refine Rv rfl rfl rfl (OpU.toB (U_neq rfl rfl) (decide_eq_false (by omega))) rfl rfl ?_
  refine Rv rfl rfl rfl (U_move rfl) rfl rfl ?_
  refine Rv rfl rfl rfl (U_move rfl) rfl rfl ?_
  refine Rv rfl rfl rfl (U_lenOf rfl len_ros) rfl rfl ?_
  refine Rv rfl rfl rfl (U_move rfl) rfl rfl ?_
  refine Rv rfl rfl rfl (U_move rfl) rfl rfl ?_
  have hx3 : ((plnN (kdsQ b) bs).foldl aft 0).toNat < hs.length := by omega
  refine Rv rfl rfl rfl (U_indexR (j := ((plnN (kdsQ b) bs).foldl aft 0).toNat) rfl rfl (by omega) hx3) rfl rfl ?_
  refine Rv rfl rfl rfl (U_load1 rfl rfl (getM hx3)) rfl rfl ?_
  refine Rv rfl rfl rfl (OpU.toB (U_lss rfl rfl) (decide_eq_false (by omega))) rfl rfl ?_
  refine Rv rfl rfl rfl (U_pick_f rfl rfl) rfl rfl ?_
  refine Rv rfl rfl rfl (U_pick_t rfl rfl) rfl rfl ?_
  refine Re rfl ?_
  refine thenQ_n ?_
  refine Wcond rfl rfl (fun h => nomatch h) (fun _ => ?_)
  refine W_skip rfl ?_
  refine thenQ_n ?_
  refine W_seq rfl ?_
  refine W_seq rfl ?_
  refine W_reg rfl ?_
  refine Rv rfl rfl rfl (U_move rfl) rfl rfl ?_
  refine Rv rfl rfl rfl (U_neq rfl rfl) rfl rfl ?_
  refine Re rfl ?_
  refine thenQ_n ?_
  refine WcondP rfl rfl (fun h => absurd h (by decide)) (fun _ => ?_)
  refine W_skip rfl ?_
  refine thenQ_n ?_
  refine W_seq rfl ?_
  refine W_reg rfl ?_
  refine Rv rfl rfl rfl (U_move rfl) rfl rfl ?_
  refine Rv rfl rfl rfl (U_move rfl) rfl rfl ?_
  refine Rv rfl rfl rfl (U_call rfl rfl (chPG_p (kdsQ b) none hok (plQ (kdsQ b) ((x % 8 : Nat) : Int)) none hql hqm hqf) rfl) rfl rfl ?_
  refine Rv rfl rfl rfl (U_move rfl) rfl rfl ?_
  refine Rv rfl rfl rfl (U_extract rfl rfl) rfl rfl ?_
  refine Rv rfl rfl rfl (U_extract rfl rfl) rfl rfl ?_
  refine Rv rfl rfl rfl (U_assign rfl) rfl rfl ?_
  refine Rv rfl rfl rfl (U_assign rfl) rfl rfl ?_
  refine Re rfl ?_
  refine thenQ_n ?_
  refine W_seq rfl ?_
  refine W_reg rfl ?_
  refine Rv rfl rfl rfl (U_move rfl) rfl rfl ?_
  refine Rv rfl rfl rfl (U_move rfl) rfl rfl ?_
  refine Rv rfl rfl rfl (U_call rfl rfl (chPGR_p (kdsQ b) none hok (plQ (kdsQ b) ((x % 8 : Nat) : Int)) none hql hqm hqf) rfl) rfl rfl ?_
  refine Rv rfl rfl rfl (U_move rfl) rfl rfl ?_
  refine Rv rfl rfl rfl (U_extract rfl rfl) rfl rfl ?_
  refine Rv rfl rfl rfl (U_extract rfl rfl) rfl rfl ?_
  refine Rv rfl rfl rfl (U_assign rfl) rfl rfl ?_
  refine Rv rfl rfl rfl (U_assign rfl) rfl rfl ?_
  refine Re rfl ?_
  refine thenQ_n ?_
  refine W_seq rfl ?_
  refine W_reg rfl ?_
  refine Rv rfl rfl rfl (U_move rfl) rfl rfl ?_
  refine Rv rfl rfl rfl (U_eql rfl rfl) rfl rfl ?_
  refine Rv rfl rfl rfl (U_move rfl) rfl rfl ?_
  refine Rv rfl rfl rfl (U_move rfl) rfl rfl ?_
  refine Rv rfl rfl rfl (U_eql rfl rfl) rfl rfl ?_
  refine Rv rfl rfl rfl (U_pick_t rfl rfl) rfl rfl ?_
  refine Rv rfl rfl rfl (U_move rfl) rfl rfl ?_
  refine Rv rfl rfl rfl (U_move rfl) rfl rfl ?_
  refine Rv rfl rfl rfl (U_move rfl) rfl rfl ?_
  refine Rv rfl rfl rfl (U_eqlS rfl rfl) rfl rfl ?_
  refine Rv rfl rfl rfl (U_pick_t rfl rfl) rfl rfl ?_
  refine Rv rfl rfl rfl (U_move rfl) rfl rfl ?_
  refine Rv rfl rfl rfl (U_move rfl) rfl rfl ?_
  refine Rv rfl rfl rfl (U_move rfl) rfl rfl ?_
  refine Rv rfl rfl rfl (U_eqlS rfl rfl) rfl rfl ?_
  refine Rv rfl rfl rfl (U_pick_t rfl rfl) rfl rfl ?_
  refine Rv rfl rfl rfl (U_move rfl) rfl rfl ?_
  refine Rv rfl rfl rfl (U_move rfl) rfl rfl ?_
  refine Rv rfl rfl rfl (U_lenOf rfl len_ros) rfl rfl ?_
  refine Rv rfl rfl rfl (U_move rfl) rfl rfl ?_
  refine Rv rfl rfl rfl (U_move rfl) rfl rfl ?_
  have hx4 : (x % 8) < (heiQ (kdsQ b)).length := by omega
  refine Rv rfl rfl rfl (U_indexR (j := (x % 8)) rfl rfl rfl hx4) rfl rfl ?_
  refine Rv rfl rfl rfl (U_load1 rfl rfl (getM hx4)) rfl rfl ?_
  refine Rv rfl rfl rfl (OpU.toB (U_eql rfl rfl) (decide_eq_true (by omega))) rfl rfl ?_
  refine Rv rfl rfl rfl (U_pick_t rfl rfl) rfl rfl ?_
  refine Rv rfl rfl rfl (U_move rfl) rfl rfl ?_
  refine Rv rfl rfl rfl (U_call rfl rfl (works_p) rfl) rfl rfl ?_
  refine Rv rfl rfl rfl (U_pick_t rfl rfl) rfl rfl ?_
  refine Rv rfl rfl rfl (U_assign rfl) rfl rfl ?_
  refine Re rfl ?_
  refine thenQ_n ?_
  refine W_ret rfl ?_
  exact retL (rlT rfl rl0) rfl rfl
theorem plateProved00_p (b x : Nat) (bs : List Nat) (hs : List Int) (c d : Option Nat) (hb8 : b < 256) (hx256 : x < 256) (hbb : ∀ y ∈ bs, y < 256) (hb20 : bs.length ≤ 20) (hh20 : hs.length ≤ 20) (hA : geN (heiQ (kdsQ b)) (((x % 8 : Nat) : Int)).toNat ≠ 20) (hC : chE (kdsQ b) hs ≠ 0) : Pure Try.prog 9 [.int .u8 (b : Nat), .int .u8 (x : Nat), bytesA bs c, intsA hs d] (.bool true) := by
  have hok := kds_ok b
  obtain ⟨hr0, hr8⟩ := reached_len (ks := kdsQ b)
  have h8 := (heiQ_ok (ks := kdsQ b)).len
  have hmo : 0 ≤ ((x % 8 : Nat) : Int) ∧ ((x % 8 : Nat) : Int) < 8 := by omega
  have hpm : ∀ y ∈ (plnN (kdsQ b) bs), y ∈ kdsQ b := fun y hy => plnN_mem hy
  have hpl : (plnN (kdsQ b) bs).length ≤ 20 := Nat.le_trans plnN_len hb20
  have hkl := okK_len hok
  have hm1 := pl_G hok hpm
  have hmi := reached_in hm1
  have hlow := hei_low hok hpm (by omega)
  have hx8 : x % 8 < 8 := Nat.mod_lt x (by decide)
  obtain ⟨hq1, hqm, hqf⟩ := plQ_facts hok hmo hA
  have hgx : (plQ (kdsQ b) ((x % 8 : Nat) : Int)).length = geN (heiQ (kdsQ b)) (x % 8) := hq1
  have hgb := hei_4 hok hx8 hA
  have hql : (plQ (kdsQ b) ((x % 8 : Nat) : Int)).length ≤ 20 := by omega
  rw [geN_get (by omega)] at hgx
  refine pure_of_body Try.func9 (c := body Try.f9) rfl (by simp [Try.ntmps9]) fun w0 Φ0 => ?_
  refine W_seq rfl ?_
  refine W_reg rfl ?_
  refine Rv rfl rfl rfl (U_assign rfl) rfl rfl ?_
  refine Re rfl ?_
  refine thenQ_n ?_
  refine W_seq rfl ?_
  refine W_seq rfl ?_
  refine Wjoin ⟨[(0, .int .u8 ((b : Nat) : Int)), (1, .int .u8 ((x : Nat) : Int)), (2, .ros (bs.map b8) bs.length c), (3, .ros (hs.map i64) hs.length d), (31, .bool ((decide (20 < ((bs.length : Nat) : Int))) || (decide (20 < ((hs.length : Nat) : Int)))))], [], 0, []⟩ ?_ ?_
  · refine W_reg rfl ?_
    refine Rv rfl rfl rfl (U_move rfl) rfl rfl ?_
    refine Rv rfl rfl rfl (U_lenOf rfl len_ros) rfl rfl ?_
    refine Rv rfl rfl rfl (U_gtr rfl rfl) rfl rfl ?_
    refine Rv rfl rfl rfl (U_move rfl) rfl rfl ?_
    refine Rsplit (t := 27) rfl (fun hg1 => ?_) (fun hg1 => ?_)
    · rw [hg1]
      have hg1' : 20 < ((bs.length : Nat) : Int) := of_decide_eq_true hg1
      refine Rs rfl rfl rfl rfl rfl ?_
      refine Rs rfl rfl rfl rfl rfl ?_
      refine Rs rfl rfl rfl rfl rfl ?_
      refine Rv rfl rfl rfl (U_pick_t rfl rfl) rfl rfl ?_
      refine Re rfl ?_
      exact joinTo id ⟨eD rfl rfl, eD rfl rfl, eD rfl rfl, eD rfl rfl, eD rfl rfl, trivial⟩ trivial rfl rfl rfl rfl (fun _ _ => rfl)
    · rw [hg1]
      have hg1' : ¬ (20 < ((bs.length : Nat) : Int)) := of_decide_eq_false hg1
      refine Rv rfl rfl rfl (U_move rfl) rfl rfl ?_
      refine Rv rfl rfl rfl (U_lenOf rfl len_ros) rfl rfl ?_
      refine Rv rfl rfl rfl (U_gtr rfl rfl) rfl rfl ?_
      refine Rv rfl rfl rfl (U_pick_f rfl rfl) rfl rfl ?_
      refine Re rfl ?_
      exact joinTo id ⟨eD rfl rfl, eD rfl rfl, eD rfl rfl, eD rfl rfl, eD rfl rfl, trivial⟩ trivial rfl rfl rfl rfl (fun _ _ => rfl)
  refine thenQ_n ?_
  refine Wcond rfl rfl (fun hc0 => absurd hc0 (by simp; omega)) (fun hc0 => ?_)
  refine W_skip rfl ?_
  refine thenQ_n ?_
  refine W_seq rfl ?_
  refine W_reg rfl ?_
  refine Rv rfl rfl rfl (U_move rfl) rfl rfl ?_
  refine Rv rfl rfl rfl (U_call rfl rfl (kinds_p b (by first | assumption | omega)) rfl) rfl rfl ?_
  refine Rv rfl rfl rfl (U_move rfl) rfl rfl ?_
  refine Rv rfl rfl rfl (U_rem (c := ((x % 8 : Nat) : Int)) rfl rfl (by omega) (tmodN _ _)) rfl rfl ?_
  refine Rv rfl rfl rfl (U_convInt (by rfl) rfl (wr_i64 (by omega) (by omega))) rfl rfl ?_
  refine Rv rfl rfl rfl (U_assign rfl) rfl rfl ?_
  refine Rv rfl rfl rfl (U_assign rfl) rfl rfl ?_
  refine Re rfl ?_
  refine thenQ_n ?_
  refine W_seq rfl ?_
  refine W_reg rfl ?_
  refine Rv rfl rfl rfl (U_move rfl) rfl rfl ?_
  refine Rv rfl rfl rfl (U_move rfl) rfl rfl ?_
  refine Rv rfl rfl rfl (U_call rfl rfl (planAQ_p (kdsQ b) none hok ((x % 8 : Nat) : Int) hmo hA) rfl) rfl rfl ?_
  refine Rv rfl rfl rfl (U_move rfl) rfl rfl ?_
  refine Rv rfl rfl rfl (U_extract rfl rfl) rfl rfl ?_
  refine Rv rfl rfl rfl (U_extract rfl rfl) rfl rfl ?_
  refine Rv rfl rfl rfl (U_assign rfl) rfl rfl ?_
  refine Rv rfl rfl rfl (U_assign rfl) rfl rfl ?_
  refine Re rfl ?_
  refine thenQ_n ?_
  refine W_seq rfl ?_
  refine W_reg rfl ?_
  refine Rv rfl rfl rfl (U_move rfl) rfl rfl ?_
  refine Rv rfl rfl rfl (U_call rfl rfl (heightsG_p (kdsQ b) none (by assumption)) rfl) rfl rfl ?_
  refine Rv rfl rfl rfl (U_move rfl) rfl rfl ?_
  refine Rv rfl rfl rfl (U_extract rfl rfl) rfl rfl ?_
  refine Rv rfl rfl rfl (U_extract rfl rfl) rfl rfl ?_
  refine Rv rfl rfl rfl (U_assign rfl) rfl rfl ?_
  refine Rv rfl rfl rfl (U_assign rfl) rfl rfl ?_
  refine Re rfl ?_
  refine thenQ_n ?_
  refine W_seq rfl ?_
  refine W_reg rfl ?_
  refine Rv rfl rfl rfl (U_move rfl) rfl rfl ?_
  refine Rv rfl rfl rfl (U_call rfl rfl (reachedG_p (kdsQ b) none (by assumption)) rfl) rfl rfl ?_
  refine Rv rfl rfl rfl (U_move rfl) rfl rfl ?_
  refine Rv rfl rfl rfl (U_extract rfl rfl) rfl rfl ?_
  refine Rv rfl rfl rfl (U_extract rfl rfl) rfl rfl ?_
  refine Rv rfl rfl rfl (U_assign rfl) rfl rfl ?_
  refine Rv rfl rfl rfl (U_assign rfl) rfl rfl ?_
  refine Re rfl ?_
  refine thenQ_n ?_
  refine W_seq rfl ?_
  refine W_seq rfl ?_
  refine W_reg rfl ?_
  refine Rv rfl rfl rfl (U_move rfl) rfl rfl ?_
  refine Rv rfl rfl rfl (U_not rfl) rfl rfl ?_
  refine Rv rfl rfl rfl (U_move rfl) rfl rfl ?_
  refine Rv rfl rfl rfl (U_move rfl) rfl rfl ?_
  refine Rv rfl rfl rfl (U_neq rfl rfl) rfl rfl ?_
  refine Rv rfl rfl rfl (U_pick_f rfl rfl) rfl rfl ?_
  refine Rv rfl rfl rfl (U_move rfl) rfl rfl ?_
  refine Rv rfl rfl rfl (U_move rfl) rfl rfl ?_
  refine Rv rfl rfl rfl (U_lenOf rfl len_ros) rfl rfl ?_
  refine Rv rfl rfl rfl (OpU.toB (U_neq rfl rfl) (decide_eq_false (by omega))) rfl rfl ?_
  refine Rv rfl rfl rfl (U_pick_f rfl rfl) rfl rfl ?_
  refine Rv rfl rfl rfl (U_move rfl) rfl rfl ?_
  refine Rv rfl rfl rfl (U_move rfl) rfl rfl ?_
  refine Rv rfl rfl rfl (U_move rfl) rfl rfl ?_
  refine Rv rfl rfl rfl (U_call rfl rfl (chHG_p (kdsQ b) none none (by assumption)) rfl) rfl rfl ?_
  refine Rv rfl rfl rfl (U_neq rfl rfl) rfl rfl ?_
  refine Rv rfl rfl rfl (U_pick_f rfl rfl) rfl rfl ?_
  refine Rv rfl rfl rfl (U_move rfl) rfl rfl ?_
  refine Rv rfl rfl rfl (U_move rfl) rfl rfl ?_
  refine Rv rfl rfl rfl (U_move rfl) rfl rfl ?_
  refine Rv rfl rfl rfl (U_call rfl rfl (chHGR_p (kdsQ b) none none (by assumption)) rfl) rfl rfl ?_
  refine Rv rfl rfl rfl (U_neq rfl rfl) rfl rfl ?_
  refine Rv rfl rfl rfl (U_pick_f rfl rfl) rfl rfl ?_
  refine Re rfl ?_
  refine thenQ_n ?_
  refine WcondP rfl rfl (fun h => absurd h (by decide)) (fun _ => ?_)
  refine W_skip rfl ?_
  refine thenQ_n ?_
  refine W_seq rfl ?_
  refine W_reg rfl ?_
  refine Rv rfl rfl rfl (U_move rfl) rfl rfl ?_
  refine Rv rfl rfl rfl (U_move rfl) rfl rfl ?_
  refine Rv rfl rfl rfl (U_call rfl rfl (planned_p (kdsQ b) none (by first | assumption | omega | exact Sz.le | (simp; done) | (simp; omega)) bs c (by first | assumption | omega | exact Sz.le | (simp; done) | (simp; omega)) (by assumption)) rfl) rfl rfl ?_
  refine Rv rfl rfl rfl (U_assign rfl) rfl rfl ?_
  refine Re rfl ?_
  refine thenQ_n ?_
  refine W_seq rfl ?_
  refine W_reg rfl ?_
  refine Rv rfl rfl rfl (U_move rfl) rfl rfl ?_
  refine Rv rfl rfl rfl (U_move rfl) rfl rfl ?_
  refine Rv rfl rfl rfl (U_call rfl rfl (chPG_p (kdsQ b) none hok (plnN (kdsQ b) bs) none hpl hpm rfl) rfl) rfl rfl ?_
  refine Rv rfl rfl rfl (U_move rfl) rfl rfl ?_
  refine Rv rfl rfl rfl (U_extract rfl rfl) rfl rfl ?_
  refine Rv rfl rfl rfl (U_extract rfl rfl) rfl rfl ?_
  refine Rv rfl rfl rfl (U_assign rfl) rfl rfl ?_
  refine Rv rfl rfl rfl (U_assign rfl) rfl rfl ?_
  refine Re rfl ?_
  refine thenQ_n ?_
  refine W_seq rfl ?_
  refine W_seq rfl ?_
  refine W_reg rfl ?_
  refine Rv rfl rfl rfl (U_move rfl) rfl rfl ?_
  refine Rv rfl rfl rfl (U_neq rfl rfl) rfl rfl ?_
  refine Rv rfl rfl rfl (U_move rfl) rfl rfl ?_
  refine Rv rfl rfl rfl (U_move rfl) rfl rfl ?_
  refine Rv rfl rfl rfl (U_call rfl rfl (isMoG_p ((plnN (kdsQ b) bs).foldl aft 0) (by first | assumption | omega)) rfl) rfl rfl ?_
  refine Rv rfl rfl rfl (U_not rfl) rfl rfl ?_
  refine Rv rfl rfl rfl (U_pick_f rfl rfl) rfl rfl ?_
  refine Rv rfl rfl rfl (U_move rfl) rfl rfl ?_
  refine Rv rfl rfl rfl (U_move rfl) rfl rfl ?_
  refine Rv rfl rfl rfl (U_move rfl) rfl rfl ?_
  refine Rv rfl rfl rfl (U_call rfl rfl (hasT_p (reachedQ (kdsQ b)) ((plnN (kdsQ b) bs).foldl aft 0) none (by omega) (by assumption)) rfl) rfl rfl ?_
  refine Rv rfl rfl rfl (U_not rfl) rfl rfl ?_
  refine Rv rfl rfl rfl (U_pick_f rfl rfl) rfl rfl ?_
  refine Rv rfl rfl rfl (U_move rfl) rfl rfl ?_
  refine Rv rfl rfl rfl (U_move rfl) rfl rfl ?_
  refine Rv rfl rfl rfl (U_lenOf rfl len_ros) rfl rfl ?_
  refine Rv rfl rfl rfl (U_move rfl) rfl rfl ?_
  refine Rv rfl rfl rfl (U_move rfl) rfl rfl ?_
  have hx2 : ((plnN (kdsQ b) bs).foldl aft 0).toNat < (heiQ (kdsQ b)).length := by omega
  refine Rv rfl rfl rfl (U_indexR (j := ((plnN (kdsQ b) bs).foldl aft 0).toNat) rfl rfl (by omega) hx2) rfl rfl ?_
  refine Rv rfl rfl rfl (U_load1 rfl rfl (getM hx2)) rfl rfl ?_
  refine Rv rfl rfl rfl (OpU.toB (U_lss rfl rfl) (decide_eq_false (by omega))) rfl rfl ?_
  refine Rv rfl rfl rfl (U_pick_f rfl rfl) rfl rfl ?_
  refine Re rfl ?_
  refine thenQ_n ?_
  refine Wcond rfl rfl (fun h => nomatch h) (fun _ => ?_)
  refine W_skip rfl ?_
  refine thenQ_n ?_
  refine W_seq rfl ?_
  refine W_seq rfl ?_
  refine W_reg rfl ?_
  refine Rv rfl rfl rfl (U_move rfl) rfl rfl ?_
  refine Rv rfl rfl rfl (U_move rfl) rfl rfl ?_
  refine Rv rfl rfl rfl (U_call rfl rfl (checkHeights_p (kdsQ b) none (by omega) hs d (by omega)) rfl) rfl rfl ?_
  refine Rv rfl rfl rfl (OpU.toB (U_eql rfl rfl) (decide_eq_false hC)) rfl rfl ?_
  refine Rv rfl rfl rfl (U_move rfl) rfl rfl ?_
  refine Rs rfl rfl rfl rfl rfl ?_
  refine Rs rfl rfl rfl rfl rfl ?_
  refine Rs rfl rfl rfl rfl rfl ?_
  refine Rs rfl rfl rfl rfl rfl ?_
  refine Rs rfl rfl rfl rfl rfl ?_
  refine Rs rfl rfl rfl rfl rfl ?_
  refine Rs rfl rfl rfl rfl rfl ?_
  refine Rs rfl rfl rfl rfl rfl ?_
  refine Rs rfl rfl rfl rfl rfl ?_
  refine Rs rfl rfl rfl rfl rfl ?_
  refine Rs rfl rfl rfl rfl rfl ?_
  refine Rs rfl rfl rfl rfl rfl ?_
  refine Rv rfl rfl rfl (U_pick_f rfl rfl) rfl rfl ?_
  refine Re rfl ?_
  refine thenQ_n ?_
  refine Wcond rfl rfl (fun h => nomatch h) (fun _ => ?_)
  refine W_skip rfl ?_
  refine thenQ_n ?_
  refine W_seq rfl ?_
  refine W_seq rfl ?_
  refine W_reg rfl ?_
  refine Rv rfl rfl rfl (U_move rfl) rfl rfl ?_
  refine Rv rfl rfl rfl (U_neq rfl rfl) rfl rfl ?_
  refine Re rfl ?_
  refine thenQ_n ?_
  refine WcondP rfl rfl (fun h => absurd h (by decide)) (fun _ => ?_)
  refine W_skip rfl ?_
  refine thenQ_n ?_
  refine W_seq rfl ?_
  refine W_reg rfl ?_
  refine Rv rfl rfl rfl (U_move rfl) rfl rfl ?_
  refine Rv rfl rfl rfl (U_move rfl) rfl rfl ?_
  refine Rv rfl rfl rfl (U_call rfl rfl (chPG_p (kdsQ b) none hok (plQ (kdsQ b) ((x % 8 : Nat) : Int)) none hql hqm hqf) rfl) rfl rfl ?_
  refine Rv rfl rfl rfl (U_move rfl) rfl rfl ?_
  refine Rv rfl rfl rfl (U_extract rfl rfl) rfl rfl ?_
  refine Rv rfl rfl rfl (U_extract rfl rfl) rfl rfl ?_
  refine Rv rfl rfl rfl (U_assign rfl) rfl rfl ?_
  refine Rv rfl rfl rfl (U_assign rfl) rfl rfl ?_
  refine Re rfl ?_
  refine thenQ_n ?_
  refine W_seq rfl ?_
  refine W_reg rfl ?_
  refine Rv rfl rfl rfl (U_move rfl) rfl rfl ?_
  refine Rv rfl rfl rfl (U_move rfl) rfl rfl ?_
  refine Rv rfl rfl rfl (U_call rfl rfl (chPGR_p (kdsQ b) none hok (plQ (kdsQ b) ((x % 8 : Nat) : Int)) none hql hqm hqf) rfl) rfl rfl ?_
  refine Rv rfl rfl rfl (U_move rfl) rfl rfl ?_
  refine Rv rfl rfl rfl (U_extract rfl rfl) rfl rfl ?_
  refine Rv rfl rfl rfl (U_extract rfl rfl) rfl rfl ?_
  refine Rv rfl rfl rfl (U_assign rfl) rfl rfl ?_
  refine Rv rfl rfl rfl (U_assign rfl) rfl rfl ?_
  refine Re rfl ?_
  refine thenQ_n ?_
  refine W_seq rfl ?_
  refine W_reg rfl ?_
  refine Rv rfl rfl rfl (U_move rfl) rfl rfl ?_
  refine Rv rfl rfl rfl (U_eql rfl rfl) rfl rfl ?_
  refine Rv rfl rfl rfl (U_move rfl) rfl rfl ?_
  refine Rv rfl rfl rfl (U_move rfl) rfl rfl ?_
  refine Rv rfl rfl rfl (U_eql rfl rfl) rfl rfl ?_
  refine Rv rfl rfl rfl (U_pick_t rfl rfl) rfl rfl ?_
  refine Rv rfl rfl rfl (U_move rfl) rfl rfl ?_
  refine Rv rfl rfl rfl (U_move rfl) rfl rfl ?_
  refine Rv rfl rfl rfl (U_move rfl) rfl rfl ?_
  refine Rv rfl rfl rfl (U_eqlS rfl rfl) rfl rfl ?_
  refine Rv rfl rfl rfl (U_pick_t rfl rfl) rfl rfl ?_
  refine Rv rfl rfl rfl (U_move rfl) rfl rfl ?_
  refine Rv rfl rfl rfl (U_move rfl) rfl rfl ?_
  refine Rv rfl rfl rfl (U_move rfl) rfl rfl ?_
  refine Rv rfl rfl rfl (U_eqlS rfl rfl) rfl rfl ?_
  refine Rv rfl rfl rfl (U_pick_t rfl rfl) rfl rfl ?_
  refine Rv rfl rfl rfl (U_move rfl) rfl rfl ?_
  refine Rv rfl rfl rfl (U_move rfl) rfl rfl ?_
  refine Rv rfl rfl rfl (U_lenOf rfl len_ros) rfl rfl ?_
  refine Rv rfl rfl rfl (U_move rfl) rfl rfl ?_
  refine Rv rfl rfl rfl (U_move rfl) rfl rfl ?_
  have hx3 : (x % 8) < (heiQ (kdsQ b)).length := by omega
  refine Rv rfl rfl rfl (U_indexR (j := (x % 8)) rfl rfl rfl hx3) rfl rfl ?_
  refine Rv rfl rfl rfl (U_load1 rfl rfl (getM hx3)) rfl rfl ?_
  refine Rv rfl rfl rfl (OpU.toB (U_eql rfl rfl) (decide_eq_true (by omega))) rfl rfl ?_
  refine Rv rfl rfl rfl (U_pick_t rfl rfl) rfl rfl ?_
  refine Rv rfl rfl rfl (U_move rfl) rfl rfl ?_
  refine Rv rfl rfl rfl (U_call rfl rfl (works_p) rfl) rfl rfl ?_
  refine Rv rfl rfl rfl (U_pick_t rfl rfl) rfl rfl ?_
  refine Rv rfl rfl rfl (U_assign rfl) rfl rfl ?_
  refine Re rfl ?_
  refine thenQ_n ?_
  refine W_ret rfl ?_
  exact retL (rlT rfl rl0) rfl rfl
theorem plateProved_p (b x : Nat) (bs : List Nat) (hs : List Int) (c d : Option Nat) (hb8 : b < 256) (hx256 : x < 256) (hbb : ∀ y ∈ bs, y < 256) : Pure Try.prog 9 [.int .u8 (b : Nat), .int .u8 (x : Nat), .ros (bs.map b8) bs.length c, intsA hs d] (.bool true) := by
  by_cases hl : bs.length ≤ 20 ∧ hs.length ≤ 20
  · by_cases hA : geN (heiQ (kdsQ b)) ((x % 8 : Nat) : Int).toNat = 20
    · by_cases hC : chE (kdsQ b) hs = 0
      · exact plateProved11_p b x bs hs c d hb8 hx256 hbb hl.1 hl.2 hA hC
      · exact plateProved10_p b x bs hs c d hb8 hx256 hbb hl.1 hl.2 hA hC
    · by_cases hC : chE (kdsQ b) hs = 0
      · exact plateProved01_p b x bs hs c d hb8 hx256 hbb hl.1 hl.2 hA hC
      · exact plateProved00_p b x bs hs c d hb8 hx256 hbb hl.1 hl.2 hA hC
  · exact plateProved0_p b x bs hs c d (by simp; omega)
end Go.Proofs.Ythoodfiacfmhgaa
end
