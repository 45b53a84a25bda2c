import Derived.Test.YthoodfiacfmhgaaM11
import Derived.Test.YthoodfiacfmhgaaM12
set_option linter.all false
section
/- Orders of lists, and groups of motions: plain laws. -/
namespace Go.Proofs.Ythoodfiacfmhgaa
set_option maxRecDepth 20000
open Go.AE
theorem cmpL_neg : ∀ (a b : List Int), cmpL a b = - cmpL b a
  | [], [] => rfl
  | [], _ :: _ => rfl
  | _ :: _, [] => rfl
  | a :: l, b :: m => by
    rw [cmpL, cmpL]
    split
    · rename_i h; rw [if_neg (by omega)]
    · split
      · rfl
      · exact cmpL_neg l m
theorem cmpL_zero : ∀ {a b : List Int}, cmpL a b = 0 → a = b
  | [], [], _ => rfl
  | [], _ :: _, h => by cases h
  | _ :: _, [], h => by cases h
  | a :: l, b :: m, h => by
    rw [cmpL] at h
    split at h
    · cases h
    · split at h
      · cases h
      · rw [cmpL_zero h]; congr 1; omega
theorem cmpL_trans : ∀ {a b c : List Int}, cmpL a b < 0 → cmpL b c < 0 → cmpL a c < 0
  | [], [], _, h, _ => by simp [cmpL] at h
  | [], _ :: _, [], _, h => by simp [cmpL] at h
  | [], _ :: _, _ :: _, _, _ => by simp [cmpL]
  | _ :: _, [], _, h, _ => by simp [cmpL] at h
  | _ :: _, _ :: _, [], _, h => by simp [cmpL] at h
  | a :: l, b :: m, c :: n, h, k => by
    rw [cmpL] at h k ⊢
    by_cases h1 : a < b
    · by_cases k1 : b < c
      · rw [if_pos (by omega)]; decide
      · rw [if_neg k1] at k
        by_cases k2 : c < b
        · rw [if_pos k2] at k; exact absurd k (by decide)
        · rw [if_pos (by omega)]; decide
    · rw [if_neg h1] at h
      by_cases h2 : b < a
      · rw [if_pos h2] at h; exact absurd h (by decide)
      · rw [if_neg h2] at h
        have e : a = b := by omega
        subst e
        by_cases k1 : a < c
        · rw [if_pos k1]; decide
        · rw [if_neg k1] at k ⊢
          by_cases k2 : c < a
          · rw [if_pos k2] at k; exact absurd k (by decide)
          · rw [if_neg k2] at k ⊢; exact cmpL_trans h k
/-- Not behind another one. -/
def leC (a b : List Int) : Prop := ¬ cmpL b a < 0
theorem leC_refl (a : List Int) : leC a a := by unfold leC; rw [cmpL_self]; decide
theorem leC_trans {a b c : List Int} (h : leC a b) (k : leC b c) : leC a c := fun h2 => by
  -- c < a, not b < a, not c < b
  unfold leC at h k
  by_cases e : cmpL a b = 0
  · rw [cmpL_zero e] at h2; exact k h2
  · have h3 : cmpL a b < 0 := by rw [cmpL_neg] at e ⊢; omega
    exact k (cmpL_trans h2 h3)
theorem leC_anti {a b : List Int} (h : leC a b) (k : leC b a) : a = b := by
  unfold leC at h k
  refine cmpL_zero ?_
  rw [cmpL_neg] at h
  omega
theorem bstL_le {p : Pl} : ∀ (l : List Int) (b : Int), (∀ x ∈ b :: l, leC (movP p (bstL (lesM p) b l)).ds (movP p x).ds)
  | [], b => by simp [bstL, leC_refl]
  | v :: l, b => by
    rw [bstL]
    have h := bstL_le (p := p) l (if lesM p v b then v else b)
    intro x hx
    by_cases hl : lesM p v b = true
    · rw [if_pos hl] at h ⊢
      have h1 : leC (movP p v).ds (movP p b).ds := by
        have h2 : cmpL (movP p v).ds (movP p b).ds < 0 := by simpa [lesM] using hl
        unfold leC; rw [cmpL_neg]; omega
      rcases List.mem_cons.1 hx with rfl | hx
      · exact leC_trans (h v (by simp)) h1
      · exact h x hx
    · rw [if_neg hl] at h ⊢
      rcases List.mem_cons.1 hx with rfl | hx
      · exact h x (by simp)
      · rcases List.mem_cons.1 hx with rfl | hx
        · refine leC_trans (h b (by simp)) ?_
          unfold leC; simpa [lesM] using hl
        · exact h x (List.mem_cons_of_mem _ hx)
theorem lstM_le {p : Pl} {l : List Int} {x : Int} (hx : x ∈ l) : leC (movP p (lstM p l)).ds (movP p x).ds := by
  cases l with
  | nil => cases hx
  | cons a l => exact bstL_le l a x hx
theorem bstL_keep {p : Pl} : ∀ (l : List Int) (b : Int), (∀ x ∈ l, leC (movP p b).ds (movP p x).ds) → bstL (lesM p) b l = b
  | [], b, _ => rfl
  | v :: l, b, h => by
    rw [bstL]
    have h1 := h v (by simp)
    rw [if_neg (by unfold leC at h1; simpa [lesM] using h1)]
    exact bstL_keep l b fun x hx => h x (List.mem_cons_of_mem _ hx)
/-! ### Kinds -/
theorem okK_ris : ∀ (l : List Int) (nx : Int), l.Pairwise (· < ·) → (∀ x ∈ l, nx ≤ x ∧ x ≤ 7) → okK nx l = true
  | [], _, _, _ => rfl
  | k :: l, nx, h, hb => by
    rw [List.pairwise_cons] at h
    rw [okK, Bool.and_eq_true]
    have h1 := hb k (by simp)
    refine ⟨by rw [inL1]; simpa using h1, okK_ris l (k + 1) h.2 fun x hx => ?_⟩
    have h2 := h.1 x hx; have h3 := hb x (List.mem_cons_of_mem _ hx); omega
theorem filt_okK (p : Nat → Bool) : okK 0 (filt p 8) = true := by
  refine okK_ris _ _ ?_ fun x hx => ?_
  · rw [filt, List.pairwise_map]
    refine (List.pairwise_lt_range.filter _).imp fun h => ?_
    omega
  · obtain ⟨i, hi, _, rfl⟩ := filt_mem.1 hx; omega
theorem chkK_0 {l : List Int} (h : okK 0 l = true) : chkK l = 0 := if_pos h
theorem kds_ok (b : Nat) : okK 0 (kdsQ b) = true := filt_okK _
theorem reached_ok (ks : List Int) : okK 0 (reachedQ ks) = true := filt_okK _
theorem stays_ok (p : Pl) : okK 0 (staysP p) = true := filt_okK _
theorem okK_mem {ks : List Int} (h : okK 0 ks = true) {x : Int} (hx : x ∈ ks) : 0 ≤ x ∧ x < 8 := by have := okK_get h x hx; omega
/-! ### Groups -/
def Gs : List (List Int) := [[0], [0, 2], [0, 4], [0, 5], [0, 6], [0, 7], [0, 1, 2, 3], [0, 2, 4, 6], [0, 2, 5, 7], [0, 1, 2, 3, 4, 5, 6, 7]]
theorem reach_all : (allK.all fun ks => Gs.contains (reachedQ ks)) = true := by decide +kernel
theorem reach_G {ks : List Int} (h : okK 0 ks = true) : reachedQ ks ∈ Gs := by
  have := List.all_eq_true.1 reach_all ks (okK_all h)
  simpa using this
theorem G_all : (Gs.all fun G => decide (0 ∈ G) && (G.all fun a => decide (0 ≤ a ∧ a < 8) && decide (invM a ∈ G) && G.all fun b => decide (aft a b ∈ G))) = true := by decide +kernel
theorem G_0 {G : List Int} (h : G ∈ Gs) : (0 : Int) ∈ G := by
  have := List.all_eq_true.1 G_all G h
  rw [Bool.and_eq_true] at this; simpa using this.1
theorem G_aft {G : List Int} (h : G ∈ Gs) {a b : Int} (ha : a ∈ G) (hb : b ∈ G) : aft a b ∈ G := by
  have := List.all_eq_true.1 G_all G h
  rw [Bool.and_eq_true] at this
  have := List.all_eq_true.1 this.2 a ha
  rw [Bool.and_eq_true] at this
  simpa using List.all_eq_true.1 this.2 b hb
theorem G_inv {G : List Int} (h : G ∈ Gs) {a : Int} (ha : a ∈ G) : invM a ∈ G ∧ 0 ≤ a ∧ a < 8 := by
  have := List.all_eq_true.1 G_all G h
  rw [Bool.and_eq_true] at this
  have := List.all_eq_true.1 this.2 a ha
  rw [Bool.and_eq_true, Bool.and_eq_true] at this
  exact ⟨by simpa using this.1.2, by simpa using this.1.1⟩
end Go.Proofs.Ythoodfiacfmhgaa
end

section
/- Least forms, and plates that are alike: plain laws. -/
namespace Go.Proofs.Ythoodfiacfmhgaa
set_option maxRecDepth 20000
open Go.AE
/-- The motion of the least form. -/
noncomputable def lsM (p : Pl) (ks : List Int) : Int := lstM p (reachedQ ks)
theorem ls_mem {p : Pl} {ks : List Int} : lsM p ks ∈ reachedQ ks := lstM_mem reached_len.1
theorem ls_in {p : Pl} {ks : List Int} : 0 ≤ lsM p ks ∧ lsM p ks < 8 := reached_in ls_mem
theorem ls_le {p : Pl} {ks : List Int} {x : Int} (hx : x ∈ reachedQ ks) : leC (movP p (lsM p ks)).ds (movP p x).ds := lstM_le hx
theorem aft_0_all : (motions.all fun a => decide (aft 0 a = a ∧ aft a 0 = a)) = true := by decide +kernel
theorem aft_0 {a : Int} (ha : 0 ≤ a ∧ a < 8) : aft 0 a = a ∧ aft a 0 = a := by
  have := aft_0_all
  simp only [List.all_eq_true, decide_eq_true_eq] at this
  exact this a (mo_mem ha)
theorem pl_ext {p q : Pl} (h1 : p.n = q.n) (h2 : p.ds = q.ds) : p = q := by
  obtain ⟨n, d⟩ := p; obtain ⟨m, e⟩ := q; simp only at h1 h2; rw [h1, h2]
theorem ls_same {p q : Pl} {ks : List Int} (hn : p.n = q.n) (h1 : ∀ x ∈ reachedQ ks, ∃ y ∈ reachedQ ks, movP q y = movP p x) (h2 : ∀ x ∈ reachedQ ks, ∃ y ∈ reachedQ ks, movP p y = movP q x) : movP p (lsM p ks) = movP q (lsM q ks) := by
  refine pl_ext hn (leC_anti ?_ ?_)
  · obtain ⟨y, hy, e⟩ := h2 _ (ls_mem (p := q) (ks := ks))
    rw [← e]; exact ls_le hy
  · obtain ⟨y, hy, e⟩ := h1 _ (ls_mem (p := p) (ks := ks))
    rw [← e]; exact ls_le hy
theorem mov_back {p : Pl} {N : Nat} (hv : VP p N) {g x : Int} (hg : 0 ≤ g ∧ g < 8) (hx : 0 ≤ x ∧ x < 8) : movP (movP p g) (aft (invM g) x) = movP p x := by
  rw [movP_aft hv hg (after_in (inv_in hg) hx), ← aft_assoc hg (inv_in hg) hx, (aft_inv1 hg).1, (aft_0 hx).1]
theorem ls_moved {p : Pl} {N : Nat} (hv : VP p N) {ks : List Int} (hok : okK 0 ks = true) {g : Int} (hg : g ∈ reachedQ ks) : movP (movP p g) (lsM (movP p g) ks) = movP p (lsM p ks) := by
  have hG := reach_G hok
  have hg8 := reached_in hg
  refine (ls_same (p := p) (q := movP p g) rfl (fun x hx => ?_) fun x hx => ?_).symm
  · exact ⟨aft (invM g) x, G_aft hG (G_inv hG hg).1 hx, mov_back hv hg8 (reached_in hx)⟩
  · exact ⟨aft g x, G_aft hG hg hx, (movP_aft hv hg8 (reached_in hx)).symm⟩
theorem ls_idem {p : Pl} {N : Nat} (hv : VP p N) {ks : List Int} (hok : okK 0 ks = true) : lsM (movP p (lsM p ks)) ks = 0 := by
  obtain ⟨t, ht⟩ := reached_0 (ks := ks)
  have hG := reach_G hok
  have hm := ls_mem (p := p) (ks := ks)
  have h8 := reached_in hm
  have hvm := movP_vp hv h8
  show lstM (movP p (lsM p ks)) (reachedQ ks) = 0
  rw [lstM, ht]
  refine bstL_keep t 0 fun x hx => ?_
  have hx' : x ∈ reachedQ ks := by rw [ht]; exact List.mem_cons_of_mem _ hx
  rw [movP_0 hvm, movP_aft hv h8 (reached_in hx')]
  exact ls_le (G_aft hG hm hx')
theorem alkF_t {p q : Pl} {ks : List Int} {k : Int} (h : alkF p q ks = some k) : k ∈ reachedQ ks ∧ (movP p k).ds = q.ds :=
  ⟨List.mem_of_find?_eq_some h, by simpa using List.find?_some h⟩
theorem alkF_f {p q : Pl} {ks : List Int} (h : alkF p q ks = none) {k : Int} (hk : k ∈ reachedQ ks) : (movP p k).ds ≠ q.ds := by
  have := List.find?_eq_none.1 h k hk; simpa using this
theorem alk_cases {p q : Pl} {N M : Nat} (hv : VP p N) (hw : VP q M) {ks : List Int} (hok : okK 0 ks = true) : (alkE p q ks = 0 ∧ movP p (lsM p ks) = movP q (lsM q ks)) ∨ (alkE p q ks = 5 ∧ samP (movP p (lsM p ks)) (movP q (lsM q ks)) = false) := by
  cases h : alkF p q ks with
  | some k =>
    obtain ⟨h1, h2⟩ := alkF_t h
    have e : movP p k = q := pl_ext (by rw [← same_n hv hw h2]; rfl) h2
    refine .inl ⟨(alk4 (vp_chk hv) (vp_chk hw) (chkK_0 hok) h).2, ?_⟩
    rw [← ls_moved hv hok h1, e]
  | none =>
    refine .inr ⟨(alk5 (vp_chk hv) (vp_chk hw) (chkK_0 hok) h).2, ?_⟩
    rw [Bool.eq_false_iff]
    intro hs
    simp only [samP, Bool.and_eq_true, decide_eq_true_eq] at hs
    have e : movP p (lsM p ks) = movP q (lsM q ks) := pl_ext hs.1 hs.2
    have hG := reach_G hok
    have h3 : movP (movP p (lsM p ks)) (invM (lsM q ks)) = movP (movP q (lsM q ks)) (invM (lsM q ks)) := congrArg (fun r => movP r (invM (lsM q ks))) e
    rw [movP_back hw ls_in, movP_aft hv ls_in (inv_in ls_in)] at h3
    exact alkF_f h (G_aft hG ls_mem (G_inv hG ls_mem).1) (by rw [h3])
theorem alk_back {p : Pl} {N : Nat} (hv : VP p N) {ks : List Int} (hok : okK 0 ks = true) {g : Int} (hg : g ∈ reachedQ ks) : alkE (movP p g) p ks = 0 ∧ (0 ≤ alkM (movP p g) p ks ∧ alkM (movP p g) p ks < 8) ∧ movP (movP p g) (alkM (movP p g) p ks) = p := by
  have hg8 := reached_in hg
  have hvg := movP_vp hv hg8
  have hG := reach_G hok
  cases h : alkF (movP p g) p ks with
  | some k =>
    obtain ⟨h1, h2⟩ := alkF_t h
    obtain ⟨h3, h4⟩ := alk4 (vp_chk hvg) (vp_chk hv) (chkK_0 hok) h
    rw [h3]
    exact ⟨h4, reached_in h1, pl_ext rfl h2⟩
  | none => exact absurd (by rw [movP_back hv hg8]) (alkF_f h (G_inv hG hg).1)
theorem hasT_p (l : List Int) (x : Int) (c : Option Nat) (hl : l.length ≤ 1000000) (h : x ∈ l) : Pure Try.prog 54 [intsA l c, i64 x] (.bool true) := by
  have k := has_p l x c hl
  rwa [show (l.any fun y => decide (x = y)) = true from List.any_eq_true.2 ⟨x, h, by simp⟩] at k
theorem leastG_p (p : Pl) (c : Option Nat) (N : Nat) (hv : VP p N) (ks : List Int) (d : Option Nat) (hok : okK 0 ks = true) : Pure Try.prog 43 [.agg [i64 p.n, intsA p.ds c], intsA ks d] (.tup [.agg [i64 (movP p (lsM p ks)).n, intsA (movP p (lsM p ks)).ds none], i64 (lsM p ks), i64 0]) := by
  have k := least_p p c (vp_mil hv) ks d (by have := okK_len hok; omega)
  have e : leaE p ks = 0 := by rw [leaE, if_neg (by simpa using vp_chk hv), chkK_0 hok]
  rwa [leaP, leaM, e, if_pos rfl, if_pos rfl] at k
theorem leastI_p (p : Pl) (c : Option Nat) (N : Nat) (hv : VP p N) (ks : List Int) (d : Option Nat) (hok : okK 0 ks = true) : Pure Try.prog 43 [.agg [i64 (movP p (lsM p ks)).n, intsA (movP p (lsM p ks)).ds c], intsA ks d] (.tup [.agg [i64 (movP p (lsM p ks)).n, intsA (movP p (lsM p ks)).ds none], i64 0, i64 0]) := by
  have k := leastG_p (movP p (lsM p ks)) c N (movP_vp hv ls_in) ks d hok
  rwa [ls_moved hv hok ls_mem, ls_idem hv hok] at k
theorem leastM_p (p : Pl) (c : Option Nat) (N : Nat) (hv : VP p N) (ks : List Int) (d : Option Nat) (hok : okK 0 ks = true) (g : Int) (hg : g ∈ reachedQ ks) : Pure Try.prog 43 [.agg [i64 (movP p g).n, intsA (movP p g).ds c], intsA ks d] (.tup [.agg [i64 (movP p (lsM p ks)).n, intsA (movP p (lsM p ks)).ds none], i64 (lsM (movP p g) ks), i64 0]) := by
  have k := leastG_p (movP p g) c N (movP_vp hv (reached_in hg)) ks d hok
  rwa [ls_moved hv hok hg] at k
theorem reachedG_p (ks : List Int) (c : Option Nat) (hok : okK 0 ks = true) : Pure Try.prog 51 [intsA ks c] (.tup [intsA (reachedQ ks) none, .bool true]) := by
  have k := reached51_p ks c (by have := okK_len hok; omega)
  have e : reaR ks = reachedQ ks := if_pos (chkK_0 hok)
  have e2 : reaB ks = true := by
    unfold reaB; rw [e, chkK_0 hok, chkK_0 (reached_ok ks)]
    have := (reached_len (ks := ks)).1
    simp; omega
  rwa [e, e2] at k
theorem behindF_p (a b : List Int) (c d : Option Nat) (ha : a.length ≤ 1000000) (hb : b.length ≤ 1000000) (hab : a.length = b.length) (h : leC a b) : Pure Try.prog 57 [intsA a c, intsA b d] (.bool false) := by
  have k := behind_p a b c d ha hb
  have e : bhd a b = false := by
    rw [bhd, if_neg (by omega)]
    unfold leC at h; rw [cmpL_neg] at h
    simp; omega
  rwa [e] at k
theorem alikeB_p (p : Pl) (c d : Option Nat) (N : Nat) (hv : VP p N) (ks : List Int) (e : Option Nat) (hok : okK 0 ks = true) (g : Int) (hg : g ∈ reachedQ ks) : Pure Try.prog 45 [.agg [i64 (movP p g).n, intsA (movP p g).ds c], .agg [i64 p.n, intsA p.ds d], intsA ks e] (.tup [i64 (alkM (movP p g) p ks), i64 0]) := by
  have k := alike_p (movP p g) p c d (vp_mil (movP_vp hv (reached_in hg))) (vp_mil hv) ks e (by have := okK_len hok; omega)
  rwa [(alk_back hv hok hg).1] at k
theorem alikeE_p (p q : Pl) (c d : Option Nat) (N M : Nat) (hv : VP p N) (hw : VP q M) (ks : List Int) (e : Option Nat) (hok : okK 0 ks = true) {x : Int} (hx : alkE p q ks = x) : Pure Try.prog 45 [.agg [i64 p.n, intsA p.ds c], .agg [i64 q.n, intsA q.ds d], intsA ks e] (.tup [i64 (alkM p q ks), i64 x]) := by
  have k := alike_p p q c d (vp_mil hv) (vp_mil hw) ks e (by have := okK_len hok; omega)
  rwa [hx] at k
theorem samF_p (p q : Pl) (c d : Option Nat) (hl : p.ds.length ≤ 1000000) (hl2 : q.ds.length ≤ 1000000) (h : samP p q = false) : Pure Try.prog 25 [.agg [i64 p.n, intsA p.ds c], .agg [i64 q.n, intsA q.ds d]] (.bool false) := by
  have k := samP_p p q c d hl hl2
  rwa [h] at k
end Go.Proofs.Ythoodfiacfmhgaa
end

section
/- Plates that are alike. -/
namespace Go.Proofs.Ythoodfiacfmhgaa
set_option maxRecDepth 20000
open Go.AE
theorem plateAlike0_p (p q : Pl) (c d : Option Nat) (b r : Nat) (hf : (!(!grt p && decide (chkP p = 0)) || !(!grt q && decide (chkP q = 0))) = true) : Pure Try.prog 11 [plA p c, plA q d, .int .u8 (b : Nat), .int .u8 (r : Nat)] (.bool true) := by
  refine pure_of_body Try.func11 (c := body Try.f11) rfl (by simp [Try.ntmps11]) fun w0 Φ0 => ?_
  refine W_seq rfl ?_
  refine W_reg rfl ?_
  refine Rv rfl rfl rfl (U_boxF rfl rfl rfl) rfl rfl ?_
  refine Rv rfl rfl rfl (U_boxF rfl rfl rfl) rfl rfl ?_
  refine Rv rfl rfl rfl (U_assign rfl) rfl rfl ?_
  refine Re rfl ?_
  refine thenQ_n ?_
  refine W_seq rfl ?_
  refine W_seq rfl ?_
  refine Wjoin ⟨[(2, .int .u8 ((b : Nat) : Int)), (3, .int .u8 ((r : Nat) : Int)), (4, .rop [i64 p.n, .ros (p.ds.map i64) p.ds.length c] 0), (5, .rop [i64 q.n, .ros (q.ds.map i64) q.ds.length d] 0), (34, .bool ((!(!grt p && decide (chkP p = 0))) || (!(!grt q && decide (chkP q = 0)))))], [], 0, []⟩ ?_ ?_
  · refine W_reg rfl ?_
    refine Rv rfl rfl rfl (U_load2 rfl rfl rfl rfl) rfl rfl ?_
    refine Rv rfl rfl rfl (U_call rfl rfl (fine_p p c) rfl) rfl rfl ?_
    refine Rv rfl rfl rfl (U_not rfl) rfl rfl ?_
    refine Rv rfl rfl rfl (U_move rfl) rfl rfl ?_
    refine Rsplit (t := 30) rfl (fun hg1 => ?_) (fun hg1 => ?_)
    · rw [hg1]
      refine Rs rfl rfl rfl rfl rfl ?_
      refine Rs rfl rfl rfl rfl rfl ?_
      refine Rs rfl rfl rfl rfl rfl ?_
      refine Rv rfl rfl rfl (U_pick_t rfl rfl) rfl rfl ?_
      refine Re rfl ?_
      exact joinTo id ⟨eD rfl rfl, eD rfl rfl, eD rfl rfl, eD rfl rfl, eD rfl rfl, trivial⟩ trivial rfl rfl rfl rfl (fun _ _ => rfl)
    · rw [hg1]
      refine Rv rfl rfl rfl (U_load2 rfl rfl rfl rfl) rfl rfl ?_
      refine Rv rfl rfl rfl (U_call rfl rfl (fine_p q d) rfl) rfl rfl ?_
      refine Rv rfl rfl rfl (U_not rfl) rfl rfl ?_
      refine Rv rfl rfl rfl (U_pick_f rfl rfl) rfl rfl ?_
      refine Re rfl ?_
      exact joinTo id ⟨eD rfl rfl, eD rfl rfl, eD rfl rfl, eD rfl rfl, eD rfl rfl, trivial⟩ trivial rfl rfl rfl rfl (fun _ _ => rfl)
  refine thenQ_n ?_
  refine Wcond rfl rfl (fun hc0 => ?_) (fun hc0 => absurd hc0 (by rw [hf]; simp))
  refine W_seq rfl ?_
  refine W_reg rfl ?_
  refine Rv rfl rfl rfl (U_call rfl rfl (works_p) rfl) rfl rfl ?_
  refine Rv rfl rfl rfl (U_assign rfl) rfl rfl ?_
  refine Re rfl ?_
  refine thenQ_n ?_
  refine W_ret rfl ?_
  refine thenQ_r ?_
  exact retL (rlT rfl rl0) rfl rfl
theorem plateAlike1_p (p q : Pl) (c d : Option Nat) (b r : Nat) (hb8 : b < 256) (hr256 : r < 256) (N M : Nat) (hv : VP p N) (hw : VP q M) (hx : alkE p q (kdsQ b) = 0) (he : movP p (lsM p (kdsQ b)) = movP q (lsM q (kdsQ b))) : Pure Try.prog 11 [plA p c, plA q d, .int .u8 (b : Nat), .int .u8 (r : Nat)] (.bool true) := by
  have hl1 := vp_mil hv
  have hl2 := vp_mil hw
  have hok := kds_ok b
  obtain ⟨hr0, hr8⟩ := reached_len (ks := kdsQ b)
  have hrl : r % (reachedQ (kdsQ b)).length < (reachedQ (kdsQ b)).length := Nat.mod_lt r hr0
  have hg : (reachedQ (kdsQ b))[r % (reachedQ (kdsQ b)).length] ∈ (reachedQ (kdsQ b)) := List.getElem_mem hrl
  have hg8 := reached_in hg
  have hvg := movP_vp hv hg8
  have hlg := vp_mil hvg
  have hsp := ls_in (p := p) (ks := kdsQ b)
  have hsq := ls_in (p := q) (ks := kdsQ b)
  have hsm := ls_mem (p := p) (ks := kdsQ b)
  have hvl := movP_vp hv hsp
  have hwl := movP_vp hw hsq
  have hll := vp_mil hvl
  have hlm := vp_mil hwl
  obtain ⟨hae, ham, hmb⟩ := alk_back hv hok hg
  refine pure_of_body Try.func11 (c := body Try.f11) rfl (by simp [Try.ntmps11]) fun w0 Φ0 => ?_
  refine W_seq rfl ?_
  refine W_reg rfl ?_
  refine Rv rfl rfl rfl (U_boxF rfl rfl rfl) rfl rfl ?_
  refine Rv rfl rfl rfl (U_boxF rfl rfl rfl) rfl rfl ?_
  refine Rv rfl rfl rfl (U_assign rfl) rfl rfl ?_
  refine Re rfl ?_
  refine thenQ_n ?_
  refine W_seq rfl ?_
  refine W_seq rfl ?_
  refine W_reg rfl ?_
  refine Rv rfl rfl rfl (U_load2 rfl rfl rfl rfl) rfl rfl ?_
  refine Rv rfl rfl rfl (U_call rfl rfl (fineG_p p c _ (by assumption)) rfl) rfl rfl ?_
  refine Rv rfl rfl rfl (U_not rfl) rfl rfl ?_
  refine Rv rfl rfl rfl (U_move rfl) rfl rfl ?_
  refine Rv rfl rfl rfl (U_load2 rfl rfl rfl rfl) rfl rfl ?_
  refine Rv rfl rfl rfl (U_call rfl rfl (fineG_p q d _ (by assumption)) rfl) rfl rfl ?_
  refine Rv rfl rfl rfl (U_not rfl) rfl rfl ?_
  refine Rv rfl rfl rfl (U_pick_f rfl rfl) rfl rfl ?_
  refine Re rfl ?_
  refine thenQ_n ?_
  refine Wcond rfl rfl (fun h => nomatch h) (fun _ => ?_)
  refine W_skip rfl ?_
  refine thenQ_n ?_
  refine W_seq rfl ?_
  refine W_reg rfl ?_
  refine Rv rfl rfl rfl (U_move rfl) rfl rfl ?_
  refine Rv rfl rfl rfl (U_call rfl rfl (kinds_p b (by first | assumption | omega)) rfl) rfl rfl ?_
  refine Rv rfl rfl rfl (U_assign rfl) rfl rfl ?_
  refine Re rfl ?_
  refine thenQ_n ?_
  refine W_seq rfl ?_
  refine W_reg rfl ?_
  refine Rv rfl rfl rfl (U_move rfl) rfl rfl ?_
  refine Rv rfl rfl rfl (U_call rfl rfl (reachedG_p (kdsQ b) none (by assumption)) rfl) rfl rfl ?_
  refine Rv rfl rfl rfl (U_move rfl) rfl rfl ?_
  refine Rv rfl rfl rfl (U_extract rfl rfl) rfl rfl ?_
  refine Rv rfl rfl rfl (U_extract rfl rfl) rfl rfl ?_
  refine Rv rfl rfl rfl (U_assign rfl) rfl rfl ?_
  refine Rv rfl rfl rfl (U_assign rfl) rfl rfl ?_
  refine Re rfl ?_
  refine thenQ_n ?_
  refine W_seq rfl ?_
  refine W_seq rfl ?_
  refine W_reg rfl ?_
  refine Rv rfl rfl rfl (U_move rfl) rfl rfl ?_
  refine Rv rfl rfl rfl (U_not rfl) rfl rfl ?_
  refine Re rfl ?_
  refine thenQ_n ?_
  refine Wcond rfl rfl (fun h => nomatch h) (fun _ => ?_)
  refine W_skip rfl ?_
  refine thenQ_n ?_
  refine W_seq rfl ?_
  refine W_reg rfl ?_
  refine Rv rfl rfl rfl (U_move rfl) rfl rfl ?_
  refine Rv rfl rfl rfl (U_move rfl) rfl rfl ?_
  refine Rv rfl rfl rfl (U_convInt (by rfl) rfl (wr_i64 (by omega) (by omega))) rfl rfl ?_
  refine Rv rfl rfl rfl (U_move rfl) rfl rfl ?_
  refine Rv rfl rfl rfl (U_lenOf rfl len_ros) rfl rfl ?_
  refine Rv rfl rfl rfl (U_rem (c := ((r % ((reachedQ (kdsQ b)).length) : Nat) : Int)) rfl rfl (by omega) (tmodN _ _)) rfl rfl ?_
  have hx1 : (r % ((reachedQ (kdsQ b)).length)) < (reachedQ (kdsQ b)).length := by omega
  refine Rv rfl rfl rfl (U_indexR (j := (r % ((reachedQ (kdsQ b)).length))) rfl rfl rfl hx1) rfl rfl ?_
  refine Rv rfl rfl rfl (U_load1 rfl rfl (getM hx1)) rfl rfl ?_
  refine Rv rfl rfl rfl (U_assign rfl) rfl rfl ?_
  refine Re rfl ?_
  refine thenQ_n ?_
  refine W_seq rfl ?_
  refine W_reg rfl ?_
  refine Rv rfl rfl rfl (U_load2 rfl rfl rfl rfl) rfl rfl ?_
  refine Rv rfl rfl rfl (U_move rfl) rfl rfl ?_
  refine Rv rfl rfl rfl (U_call rfl rfl (mvG_p p c _ (by assumption) ((reachedQ (kdsQ b))[(r % ((reachedQ (kdsQ b)).length))]) (by first | assumption | omega)) rfl) rfl rfl ?_
  refine Rv rfl rfl rfl (U_move rfl) rfl rfl ?_
  refine Rv rfl rfl rfl (U_extract rfl rfl) rfl rfl ?_
  refine Rv rfl rfl rfl (U_extract rfl rfl) rfl rfl ?_
  refine Ra rfl rfl rfl (U_alloc) rfl rfl rfl ?_
  refine Rn rfl rfl rfl (U_storeAll rfl rfl rfl rfl rfl rfl) rfl ?_
  refine Rv rfl rfl rfl (U_assign rfl) rfl rfl ?_
  refine Re rfl ?_
  refine thenQ_n ?_
  refine WfrN 0 rfl rfl (T' := [(4, .rop [i64 p.n, .ros (p.ds.map i64) p.ds.length c] 0), (5, .rop [i64 q.n, .ros (q.ds.map i64) q.ds.length d] 0), (9, .ros ((kdsQ b).map i64) ((kdsQ b).length) none), (10, .ros ((reachedQ (kdsQ b)).map i64) ((reachedQ (kdsQ b)).length) none), (13, .rop [i64 ((movP p ((reachedQ (kdsQ b))[(r % ((reachedQ (kdsQ b)).length))])).n), .ros (((movP p ((reachedQ (kdsQ b))[(r % ((reachedQ (kdsQ b)).length))])).ds).map i64) (((movP p ((reachedQ (kdsQ b))[(r % ((reachedQ (kdsQ b)).length))])).ds).length) none] 0), (14, i64 0)]) (H' := []) ⟨⟨_, rfl, rfl⟩, ⟨_, rfl, rfl⟩, ⟨_, rfl, rfl⟩, ⟨_, rfl, rfl⟩, ⟨_, rfl, rfl⟩, ⟨_, rfl, rfl⟩, trivial⟩ trivial ?_
  refine W_seq rfl ?_
  refine W_reg rfl ?_
  refine Rv rfl rfl rfl (U_load2 rfl rfl rfl rfl) rfl rfl ?_
  refine Rv rfl rfl rfl (U_move rfl) rfl rfl ?_
  refine Rv rfl rfl rfl (U_call rfl rfl (leastG_p p c _ (by assumption) (kdsQ b) none (by assumption)) rfl) rfl rfl ?_
  refine Rv rfl rfl rfl (U_move rfl) rfl rfl ?_
  refine Rv rfl rfl rfl (U_extract rfl rfl) rfl rfl ?_
  refine Rv rfl rfl rfl (U_extract rfl rfl) rfl rfl ?_
  refine Rv rfl rfl rfl (U_extract rfl rfl) rfl rfl ?_
  refine Ra rfl rfl rfl (U_alloc) rfl rfl rfl ?_
  refine Rn rfl rfl rfl (U_storeAll rfl rfl rfl rfl rfl rfl) rfl ?_
  refine Rv rfl rfl rfl (U_assign rfl) rfl rfl ?_
  refine Rv rfl rfl rfl (U_assign rfl) rfl rfl ?_
  refine Re rfl ?_
  refine thenQ_n ?_
  refine WfrN 1 rfl rfl (T' := [(4, .rop [i64 p.n, .ros (p.ds.map i64) p.ds.length c] 0), (5, .rop [i64 q.n, .ros (q.ds.map i64) q.ds.length d] 0), (9, .ros ((kdsQ b).map i64) ((kdsQ b).length) none), (10, .ros ((reachedQ (kdsQ b)).map i64) ((reachedQ (kdsQ b)).length) none), (13, .rop [i64 ((movP p ((reachedQ (kdsQ b))[(r % ((reachedQ (kdsQ b)).length))])).n), .ros (((movP p ((reachedQ (kdsQ b))[(r % ((reachedQ (kdsQ b)).length))])).ds).map i64) (((movP p ((reachedQ (kdsQ b))[(r % ((reachedQ (kdsQ b)).length))])).ds).length) none] 0), (14, i64 0), (15, .rop [i64 ((movP p (lsM p (kdsQ b))).n), .ros (((movP p (lsM p (kdsQ b))).ds).map i64) (((movP p (lsM p (kdsQ b))).ds).length) none] 0), (16, i64 (lsM p (kdsQ b))), (17, i64 0)]) (H' := []) ⟨⟨_, rfl, rfl⟩, ⟨_, rfl, rfl⟩, ⟨_, rfl, rfl⟩, ⟨_, rfl, rfl⟩, ⟨_, rfl, rfl⟩, ⟨_, rfl, rfl⟩, ⟨_, rfl, rfl⟩, ⟨_, rfl, rfl⟩, ⟨_, rfl, rfl⟩, trivial⟩ trivial ?_
  refine W_seq rfl ?_
  refine W_reg rfl ?_
  refine Rv rfl rfl rfl (U_load2 rfl rfl rfl rfl) rfl rfl ?_
  refine Rv rfl rfl rfl (U_move rfl) rfl rfl ?_
  refine Rv rfl rfl rfl (U_call rfl rfl (leastG_p q d _ (by assumption) (kdsQ b) none (by assumption)) rfl) rfl rfl ?_
  refine Rv rfl rfl rfl (U_move rfl) rfl rfl ?_
  refine Rv rfl rfl rfl (U_extract rfl rfl) rfl rfl ?_
  refine Rv rfl rfl rfl (U_extract rfl rfl) rfl rfl ?_
  refine Rv rfl rfl rfl (U_extract rfl rfl) rfl rfl ?_
  refine Ra rfl rfl rfl (U_alloc) rfl rfl rfl ?_
  refine Rn rfl rfl rfl (U_storeAll rfl rfl rfl rfl rfl rfl) rfl ?_
  refine Rv rfl rfl rfl (U_assign rfl) rfl rfl ?_
  refine Rv rfl rfl rfl (U_assign rfl) rfl rfl ?_
  refine Re rfl ?_
  refine thenQ_n ?_
  refine WfrN 2 rfl rfl (T' := [(4, .rop [i64 p.n, .ros (p.ds.map i64) p.ds.length c] 0), (5, .rop [i64 q.n, .ros (q.ds.map i64) q.ds.length d] 0), (9, .ros ((kdsQ b).map i64) ((kdsQ b).length) none), (10, .ros ((reachedQ (kdsQ b)).map i64) ((reachedQ (kdsQ b)).length) none), (13, .rop [i64 ((movP p ((reachedQ (kdsQ b))[(r % ((reachedQ (kdsQ b)).length))])).n), .ros (((movP p ((reachedQ (kdsQ b))[(r % ((reachedQ (kdsQ b)).length))])).ds).map i64) (((movP p ((reachedQ (kdsQ b))[(r % ((reachedQ (kdsQ b)).length))])).ds).length) none] 0), (14, i64 0), (15, .rop [i64 ((movP p (lsM p (kdsQ b))).n), .ros (((movP p (lsM p (kdsQ b))).ds).map i64) (((movP p (lsM p (kdsQ b))).ds).length) none] 0), (16, i64 (lsM p (kdsQ b))), (17, i64 0), (18, .rop [i64 ((movP q (lsM q (kdsQ b))).n), .ros (((movP q (lsM q (kdsQ b))).ds).map i64) (((movP q (lsM q (kdsQ b))).ds).length) none] 0), (20, i64 0)]) (H' := []) ⟨⟨_, rfl, rfl⟩, ⟨_, rfl, rfl⟩, ⟨_, rfl, rfl⟩, ⟨_, rfl, rfl⟩, ⟨_, rfl, rfl⟩, ⟨_, rfl, rfl⟩, ⟨_, rfl, rfl⟩, ⟨_, rfl, rfl⟩, ⟨_, rfl, rfl⟩, ⟨_, rfl, rfl⟩, ⟨_, rfl, rfl⟩, trivial⟩ trivial ?_
  refine W_seq rfl ?_
  refine W_seq rfl ?_
  refine Wdraw rfl (by kernel_rfl) (by kernel_rfl) ?_
  refine Dv rfl rfl rfl (U_move rfl) rfl rfl ?_
  refine Dv rfl rfl rfl (U_neq rfl rfl) rfl rfl ?_
  refine Dv rfl rfl rfl (U_move rfl) rfl rfl ?_
  refine Dv rfl rfl rfl (U_move rfl) rfl rfl ?_
  refine Dv rfl rfl rfl (U_neq rfl rfl) rfl rfl ?_
  refine Dv rfl rfl rfl (U_pick_f rfl rfl) rfl rfl ?_
  refine Dv rfl rfl rfl (U_move rfl) rfl rfl ?_
  refine Dv rfl rfl rfl (U_move rfl) rfl rfl ?_
  refine Dv rfl rfl rfl (U_neq rfl rfl) rfl rfl ?_
  refine Dv rfl rfl rfl (U_pick_f rfl rfl) rfl rfl ?_
  refine Dv rfl rfl rfl (U_move rfl) rfl rfl ?_
  refine Dv rfl rfl rfl (U_load2 rfl rfl rfl rfl) rfl rfl ?_
  refine Dv rfl rfl rfl (U_call rfl rfl (fineG_p (movP p ((reachedQ (kdsQ b))[(r % ((reachedQ (kdsQ b)).length))])) none _ (by assumption)) rfl) rfl rfl ?_
  refine Dv rfl rfl rfl (U_not rfl) rfl rfl ?_
  refine Dv rfl rfl rfl (U_pick_f rfl rfl) rfl rfl ?_
  refine Dv rfl rfl rfl (U_move rfl) rfl rfl ?_
  refine Dv rfl rfl rfl (U_load2 rfl rfl rfl rfl) rfl rfl ?_
  refine Dv rfl rfl rfl (U_call rfl rfl (fineG_p (movP p (lsM p (kdsQ b))) none _ (by assumption)) rfl) rfl rfl ?_
  refine Dv rfl rfl rfl (U_not rfl) rfl rfl ?_
  refine Dv rfl rfl rfl (U_pick_f rfl rfl) rfl rfl ?_
  refine Dv rfl rfl rfl (U_move rfl) rfl rfl ?_
  refine Dv rfl rfl rfl (U_load2 rfl rfl rfl rfl) rfl rfl ?_
  refine Dv rfl rfl rfl (U_call rfl rfl (fineG_p (movP q (lsM q (kdsQ b))) none _ (by assumption)) rfl) rfl rfl ?_
  refine Dv rfl rfl rfl (U_not rfl) rfl rfl ?_
  refine Dv rfl rfl rfl (U_pick_f rfl rfl) rfl rfl ?_
  refine Dv rfl rfl rfl (U_move rfl) rfl rfl ?_
  refine Dv rfl rfl rfl (U_move rfl) rfl rfl ?_
  refine Dv rfl rfl rfl (U_move rfl) rfl rfl ?_
  refine Dv rfl rfl rfl (U_call rfl rfl (hasT_p (reachedQ (kdsQ b)) (lsM p (kdsQ b)) none (by omega) (by assumption)) rfl) rfl rfl ?_
  refine Dv rfl rfl rfl (U_not rfl) rfl rfl ?_
  refine Dv rfl rfl rfl (U_pick_f rfl rfl) rfl rfl ?_
  refine Dv rfl rfl rfl (U_move rfl) rfl rfl ?_
  refine Dv rfl rfl rfl (U_load2 rfl rfl rfl rfl) rfl rfl ?_
  refine Dv rfl rfl rfl (U_move rfl) rfl rfl ?_
  refine Dv rfl rfl rfl (U_call rfl rfl (moveOf_p p c _ (by assumption) (lsM p (kdsQ b)) (by first | assumption | omega)) rfl) rfl rfl ?_
  refine Dv rfl rfl rfl (U_load2 rfl rfl rfl rfl) rfl rfl ?_
  refine Dv rfl rfl rfl (U_call rfl rfl (samS_p (movP p (lsM p (kdsQ b))) (some (movP p (lsM p (kdsQ b))).ds.length) none (by first | assumption | omega | exact Sz.le | (simp; done) | (simp; omega))) rfl) rfl rfl ?_
  refine Dv rfl rfl rfl (U_not rfl) rfl rfl ?_
  refine Dv rfl rfl rfl (U_pick_f rfl rfl) rfl rfl ?_
  refine Dr.nil rfl ?_
  refine thenQ_n ?_
  refine Wcond rfl rfl (fun h => nomatch h) (fun _ => ?_)
  refine W_skip rfl ?_
  refine thenQ_n ?_
  refine W_seq rfl ?_
  refine W_reg rfl ?_
  refine Rv rfl rfl rfl (U_load2 rfl rfl rfl rfl) rfl rfl ?_
  refine Rv rfl rfl rfl (U_load2 rfl rfl rfl rfl) rfl rfl ?_
  refine Rv rfl rfl rfl (U_move rfl) rfl rfl ?_
  refine Rv rfl rfl rfl (U_call rfl rfl (alikeE_p p q c d N M hv hw (kdsQ b) none hok hx) rfl) rfl rfl ?_
  refine Rv rfl rfl rfl (U_move rfl) rfl rfl ?_
  refine Rv rfl rfl rfl (U_extract rfl rfl) rfl rfl ?_
  refine Rv rfl rfl rfl (U_extract rfl rfl) rfl rfl ?_
  refine Rv rfl rfl rfl (U_assign rfl) rfl rfl ?_
  refine Re rfl ?_
  refine thenQ_n ?_
  refine W_seq rfl ?_
  refine W_reg rfl ?_
  refine Rv rfl rfl rfl (U_load2 rfl rfl rfl rfl) rfl rfl ?_
  refine Rv rfl rfl rfl (U_load2 rfl rfl rfl rfl) rfl rfl ?_
  refine Rv rfl rfl rfl (U_move rfl) rfl rfl ?_
  refine Rv rfl rfl rfl (U_call rfl rfl (alikeB_p p none c N hv (kdsQ b) none hok ((reachedQ (kdsQ b))[r % (reachedQ (kdsQ b)).length]) hg) rfl) rfl rfl ?_
  refine Rv rfl rfl rfl (U_move rfl) rfl rfl ?_
  refine Rv rfl rfl rfl (U_extract rfl rfl) rfl rfl ?_
  refine Rv rfl rfl rfl (U_extract rfl rfl) rfl rfl ?_
  refine Rv rfl rfl rfl (U_assign rfl) rfl rfl ?_
  refine Rv rfl rfl rfl (U_assign rfl) rfl rfl ?_
  refine Re rfl ?_
  refine thenQ_n ?_
  refine W_seq rfl ?_
  refine W_reg rfl ?_
  refine Rv rfl rfl rfl (U_load2 rfl rfl rfl rfl) rfl rfl ?_
  refine Rv rfl rfl rfl (U_move rfl) rfl rfl ?_
  refine Rv rfl rfl rfl (U_call rfl rfl (leastI_p p none N hv (kdsQ b) none hok) rfl) rfl rfl ?_
  refine Rv rfl rfl rfl (U_move rfl) rfl rfl ?_
  refine Rv rfl rfl rfl (U_extract rfl rfl) rfl rfl ?_
  refine Rv rfl rfl rfl (U_extract rfl rfl) rfl rfl ?_
  refine Rv rfl rfl rfl (U_extract rfl rfl) rfl rfl ?_
  refine Ra rfl rfl rfl (U_alloc) rfl rfl rfl ?_
  refine Rn rfl rfl rfl (U_storeAll rfl rfl rfl rfl rfl rfl) rfl ?_
  refine Rv rfl rfl rfl (U_assign rfl) rfl rfl ?_
  refine Rv rfl rfl rfl (U_assign rfl) rfl rfl ?_
  refine Re rfl ?_
  refine thenQ_n ?_
  refine WfrN 3 rfl rfl (T' := [(4, .rop [i64 p.n, .ros (p.ds.map i64) p.ds.length c] 0), (9, .ros ((kdsQ b).map i64) ((kdsQ b).length) none), (13, .rop [i64 ((movP p ((reachedQ (kdsQ b))[(r % ((reachedQ (kdsQ b)).length))])).n), .ros (((movP p ((reachedQ (kdsQ b))[(r % ((reachedQ (kdsQ b)).length))])).ds).map i64) (((movP p ((reachedQ (kdsQ b))[(r % ((reachedQ (kdsQ b)).length))])).ds).length) none] 0), (14, i64 0), (15, .rop [i64 ((movP p (lsM p (kdsQ b))).n), .ros (((movP p (lsM p (kdsQ b))).ds).map i64) (((movP p (lsM p (kdsQ b))).ds).length) none] 0), (17, i64 0), (18, .rop [i64 ((movP q (lsM q (kdsQ b))).n), .ros (((movP q (lsM q (kdsQ b))).ds).map i64) (((movP q (lsM q (kdsQ b))).ds).length) none] 0), (20, i64 0), (21, i64 (alkM (movP p (reachedQ (kdsQ b))[r % (reachedQ (kdsQ b)).length]) p (kdsQ b))), (22, .rop [i64 ((movP p (lsM p (kdsQ b))).n), .ros (((movP p (lsM p (kdsQ b))).ds).map i64) (((movP p (lsM p (kdsQ b))).ds).length) none] 0), (23, i64 0)]) (H' := []) ⟨⟨_, rfl, rfl⟩, ⟨_, rfl, rfl⟩, ⟨_, rfl, rfl⟩, ⟨_, rfl, rfl⟩, ⟨_, rfl, rfl⟩, ⟨_, rfl, rfl⟩, ⟨_, rfl, rfl⟩, ⟨_, rfl, rfl⟩, ⟨_, rfl, rfl⟩, ⟨_, rfl, rfl⟩, ⟨_, rfl, rfl⟩, trivial⟩ trivial ?_
  refine W_seq rfl ?_
  refine W_reg rfl ?_
  refine Rv rfl rfl rfl (U_load2 rfl rfl rfl rfl) rfl rfl ?_
  refine Rv rfl rfl rfl (U_move rfl) rfl rfl ?_
  refine Rv rfl rfl rfl (U_call rfl rfl (leastM_p p none N hv (kdsQ b) none hok ((reachedQ (kdsQ b))[r % (reachedQ (kdsQ b)).length]) hg) rfl) rfl rfl ?_
  refine Rv rfl rfl rfl (U_move rfl) rfl rfl ?_
  refine Rv rfl rfl rfl (U_extract rfl rfl) rfl rfl ?_
  refine Rv rfl rfl rfl (U_extract rfl rfl) rfl rfl ?_
  refine Rv rfl rfl rfl (U_extract rfl rfl) rfl rfl ?_
  refine Ra rfl rfl rfl (U_alloc) rfl rfl rfl ?_
  refine Rn rfl rfl rfl (U_storeAll rfl rfl rfl rfl rfl rfl) rfl ?_
  refine Rv rfl rfl rfl (U_assign rfl) rfl rfl ?_
  refine Rv rfl rfl rfl (U_assign rfl) rfl rfl ?_
  refine Re rfl ?_
  refine thenQ_n ?_
  refine WfrN 4 rfl rfl (T' := [(4, .rop [i64 p.n, .ros (p.ds.map i64) p.ds.length c] 0), (13, .rop [i64 ((movP p ((reachedQ (kdsQ b))[(r % ((reachedQ (kdsQ b)).length))])).n), .ros (((movP p ((reachedQ (kdsQ b))[(r % ((reachedQ (kdsQ b)).length))])).ds).map i64) (((movP p ((reachedQ (kdsQ b))[(r % ((reachedQ (kdsQ b)).length))])).ds).length) none] 0), (14, i64 0), (15, .rop [i64 ((movP p (lsM p (kdsQ b))).n), .ros (((movP p (lsM p (kdsQ b))).ds).map i64) (((movP p (lsM p (kdsQ b))).ds).length) none] 0), (17, i64 0), (18, .rop [i64 ((movP q (lsM q (kdsQ b))).n), .ros (((movP q (lsM q (kdsQ b))).ds).map i64) (((movP q (lsM q (kdsQ b))).ds).length) none] 0), (20, i64 0), (21, i64 (alkM (movP p (reachedQ (kdsQ b))[r % (reachedQ (kdsQ b)).length]) p (kdsQ b))), (22, .rop [i64 ((movP p (lsM p (kdsQ b))).n), .ros (((movP p (lsM p (kdsQ b))).ds).map i64) (((movP p (lsM p (kdsQ b))).ds).length) none] 0), (23, i64 0), (24, .rop [i64 ((movP p (lsM p (kdsQ b))).n), .ros (((movP p (lsM p (kdsQ b))).ds).map i64) (((movP p (lsM p (kdsQ b))).ds).length) none] 0), (26, i64 0)]) (H' := []) ⟨⟨_, rfl, rfl⟩, ⟨_, rfl, rfl⟩, ⟨_, rfl, rfl⟩, ⟨_, rfl, rfl⟩, ⟨_, rfl, rfl⟩, ⟨_, rfl, rfl⟩, ⟨_, rfl, rfl⟩, ⟨_, rfl, rfl⟩, ⟨_, rfl, rfl⟩, ⟨_, rfl, rfl⟩, ⟨_, rfl, rfl⟩, ⟨_, rfl, rfl⟩, trivial⟩ trivial ?_
  refine W_seq rfl ?_
  refine W_seq rfl ?_
  refine Wdraw rfl (by kernel_rfl) (by kernel_rfl) ?_
  refine Dv rfl rfl rfl (U_move rfl) rfl rfl ?_
  refine Dv rfl rfl rfl (U_neq rfl rfl) rfl rfl ?_
  refine Dv rfl rfl rfl (U_move rfl) rfl rfl ?_
  refine Ds rfl rfl rfl rfl rfl ?_
  refine Ds rfl rfl rfl rfl rfl ?_
  refine Dv rfl rfl rfl (U_pick_f rfl rfl) rfl rfl ?_
  refine Dv rfl rfl rfl (U_move rfl) rfl rfl ?_
  refine Dv rfl rfl rfl (U_move rfl) rfl rfl ?_
  refine Dv rfl rfl rfl (U_eql rfl rfl) rfl rfl ?_
  refine Dv rfl rfl rfl (U_load2 rfl rfl rfl rfl) rfl rfl ?_
  refine Dv rfl rfl rfl (U_load2 rfl rfl rfl rfl) rfl rfl ?_
  refine Dv rfl rfl rfl (U_call rfl rfl (samE_p (movP p (lsM p (kdsQ b))) (movP q (lsM q (kdsQ b))) none none hll hlm he) rfl) rfl rfl ?_
  refine Dv rfl rfl rfl (U_neqB rfl rfl) rfl rfl ?_
  refine Dv rfl rfl rfl (U_pick_f rfl rfl) rfl rfl ?_
  refine Dv rfl rfl rfl (U_move rfl) rfl rfl ?_
  refine Dv rfl rfl rfl (U_move rfl) rfl rfl ?_
  refine Dv rfl rfl rfl (U_neq rfl rfl) rfl rfl ?_
  refine Dv rfl rfl rfl (U_pick_f rfl rfl) rfl rfl ?_
  refine Dv rfl rfl rfl (U_move rfl) rfl rfl ?_
  refine Dv rfl rfl rfl (U_move rfl) rfl rfl ?_
  refine Dv rfl rfl rfl (U_call rfl rfl (isMoG_p (alkM (movP p (reachedQ (kdsQ b))[r % (reachedQ (kdsQ b)).length]) p (kdsQ b)) (by first | assumption | omega)) rfl) rfl rfl ?_
  refine Dv rfl rfl rfl (U_not rfl) rfl rfl ?_
  refine Dv rfl rfl rfl (U_pick_f rfl rfl) rfl rfl ?_
  refine Dv rfl rfl rfl (U_move rfl) rfl rfl ?_
  refine Dv rfl rfl rfl (U_load2 rfl rfl rfl rfl) rfl rfl ?_
  refine Dv rfl rfl rfl (U_move rfl) rfl rfl ?_
  refine Dv rfl rfl rfl (U_call rfl rfl (moveOf_p (movP p ((reachedQ (kdsQ b))[(r % ((reachedQ (kdsQ b)).length))])) none _ (by assumption) (alkM (movP p (reachedQ (kdsQ b))[r % (reachedQ (kdsQ b)).length]) p (kdsQ b)) (by first | assumption | omega)) rfl) rfl rfl ?_
  refine Dv rfl rfl rfl (U_load2 rfl rfl rfl rfl) rfl rfl ?_
  refine Dv rfl rfl rfl (U_call rfl rfl (samE_p (movP (movP p (reachedQ (kdsQ b))[r % (reachedQ (kdsQ b)).length]) (alkM (movP p (reachedQ (kdsQ b))[r % (reachedQ (kdsQ b)).length]) p (kdsQ b))) p (some (movP (movP p (reachedQ (kdsQ b))[r % (reachedQ (kdsQ b)).length]) (alkM (movP p (reachedQ (kdsQ b))[r % (reachedQ (kdsQ b)).length]) p (kdsQ b))).ds.length) c (by rw [hmb]; exact hl1) hl1 hmb) rfl) rfl rfl ?_
  refine Dv rfl rfl rfl (U_not rfl) rfl rfl ?_
  refine Dv rfl rfl rfl (U_pick_f rfl rfl) rfl rfl ?_
  refine Dv rfl rfl rfl (U_move rfl) rfl rfl ?_
  refine Dv rfl rfl rfl (U_move rfl) rfl rfl ?_
  refine Dv rfl rfl rfl (U_neq rfl rfl) rfl rfl ?_
  refine Dv rfl rfl rfl (U_pick_f rfl rfl) rfl rfl ?_
  refine Dv rfl rfl rfl (U_move rfl) rfl rfl ?_
  refine Dv rfl rfl rfl (U_move rfl) rfl rfl ?_
  refine Dv rfl rfl rfl (U_neq rfl rfl) rfl rfl ?_
  refine Dv rfl rfl rfl (U_pick_f rfl rfl) rfl rfl ?_
  refine Dr.nil rfl ?_
  refine thenQ_n ?_
  refine WcondP rfl rfl (fun h => absurd h (by decide)) (fun _ => ?_)
  refine W_skip rfl ?_
  refine thenQ_n ?_
  refine W_seq rfl ?_
  refine W_reg rfl ?_
  refine Rv rfl rfl rfl (U_load2 rfl rfl rfl rfl) rfl rfl ?_
  refine Rv rfl rfl rfl (U_load2 rfl rfl rfl rfl) rfl rfl ?_
  refine Rv rfl rfl rfl (U_call rfl rfl (samS_p (movP p (lsM p (kdsQ b))) none none (by first | assumption | omega | exact Sz.le | (simp; done) | (simp; omega))) rfl) rfl rfl ?_
  refine Rv rfl rfl rfl (U_move rfl) rfl rfl ?_
  refine Rv rfl rfl rfl (U_move rfl) rfl rfl ?_
  refine Rv rfl rfl rfl (U_eql rfl rfl) rfl rfl ?_
  refine Rv rfl rfl rfl (U_pick_t rfl rfl) rfl rfl ?_
  refine Rv rfl rfl rfl (U_move rfl) rfl rfl ?_
  refine Rv rfl rfl rfl (U_load2 rfl rfl rfl rfl) rfl rfl ?_
  refine Rv rfl rfl rfl (U_load2 rfl rfl rfl rfl) rfl rfl ?_
  refine Rv rfl rfl rfl (U_call rfl rfl (samS_p (movP p (lsM p (kdsQ b))) none none (by first | assumption | omega | exact Sz.le | (simp; done) | (simp; omega))) rfl) rfl rfl ?_
  refine Rv rfl rfl rfl (U_pick_t rfl rfl) rfl rfl ?_
  refine Rv rfl rfl rfl (U_move rfl) rfl rfl ?_
  refine Rv rfl rfl rfl (U_fieldAddrR rfl) rfl rfl ?_
  refine Rv rfl rfl rfl (U_load1 rfl rfl rfl) rfl rfl ?_
  refine Rv rfl rfl rfl (U_fieldAddrR rfl) rfl rfl ?_
  refine Rv rfl rfl rfl (U_load1 rfl rfl rfl) rfl rfl ?_
  refine Rv rfl rfl rfl (U_call rfl rfl (behindF_p (movP p (lsM p (kdsQ b))).ds p.ds none c hll hl1 (by rw [movP_len]) (by have h1 := ls_le (p := p) (G_0 (reach_G hok)); rw [movP_0 hv] at h1; exact h1)) rfl) rfl rfl ?_
  refine Rv rfl rfl rfl (U_not rfl) rfl rfl ?_
  refine Rv rfl rfl rfl (U_pick_t rfl rfl) rfl rfl ?_
  refine Rv rfl rfl rfl (U_move rfl) rfl rfl ?_
  refine Rv rfl rfl rfl (U_fieldAddrR rfl) rfl rfl ?_
  refine Rv rfl rfl rfl (U_load1 rfl rfl rfl) rfl rfl ?_
  refine Rv rfl rfl rfl (U_fieldAddrR rfl) rfl rfl ?_
  refine Rv rfl rfl rfl (U_load1 rfl rfl rfl) rfl rfl ?_
  refine Rv rfl rfl rfl (U_call rfl rfl (behindF_p (movP p (lsM p (kdsQ b))).ds (movP p (reachedQ (kdsQ b))[r % (reachedQ (kdsQ b)).length]).ds none none hll hlg (by rw [movP_len, movP_len]) (ls_le hg)) rfl) rfl rfl ?_
  refine Rv rfl rfl rfl (U_not rfl) rfl rfl ?_
  refine Rv rfl rfl rfl (U_pick_t rfl rfl) rfl rfl ?_
  refine Rv rfl rfl rfl (U_move rfl) rfl rfl ?_
  refine Rv rfl rfl rfl (U_call rfl rfl (works_p) rfl) rfl rfl ?_
  refine Rv rfl rfl rfl (U_pick_t rfl rfl) rfl rfl ?_
  refine Rv rfl rfl rfl (U_assign rfl) rfl rfl ?_
  refine Re rfl ?_
  refine thenQ_n ?_
  refine W_ret rfl ?_
  exact retL (rlT rfl rl0) rfl rfl
theorem plateAlike2_p (p q : Pl) (c d : Option Nat) (b r : Nat) (hb8 : b < 256) (hr256 : r < 256) (N M : Nat) (hv : VP p N) (hw : VP q M) (hx : alkE p q (kdsQ b) = 5) (he : samP (movP p (lsM p (kdsQ b))) (movP q (lsM q (kdsQ b))) = false) : Pure Try.prog 11 [plA p c, plA q d, .int .u8 (b : Nat), .int .u8 (r : Nat)] (.bool true) := by
  have hl1 := vp_mil hv
  have hl2 := vp_mil hw
  have hok := kds_ok b
  obtain ⟨hr0, hr8⟩ := reached_len (ks := kdsQ b)
  have hrl : r % (reachedQ (kdsQ b)).length < (reachedQ (kdsQ b)).length := Nat.mod_lt r hr0
  have hg : (reachedQ (kdsQ b))[r % (reachedQ (kdsQ b)).length] ∈ (reachedQ (kdsQ b)) := List.getElem_mem hrl
  have hg8 := reached_in hg
  have hvg := movP_vp hv hg8
  have hlg := vp_mil hvg
  have hsp := ls_in (p := p) (ks := kdsQ b)
  have hsq := ls_in (p := q) (ks := kdsQ b)
  have hsm := ls_mem (p := p) (ks := kdsQ b)
  have hvl := movP_vp hv hsp
  have hwl := movP_vp hw hsq
  have hll := vp_mil hvl
  have hlm := vp_mil hwl
  obtain ⟨hae, ham, hmb⟩ := alk_back hv hok hg
  refine pure_of_body Try.func11 (c := body Try.f11) rfl (by simp [Try.ntmps11]) fun w0 Φ0 => ?_
  refine W_seq rfl ?_
  refine W_reg rfl ?_
  refine Rv rfl rfl rfl (U_boxF rfl rfl rfl) rfl rfl ?_
  refine Rv rfl rfl rfl (U_boxF rfl rfl rfl) rfl rfl ?_
  refine Rv rfl rfl rfl (U_assign rfl) rfl rfl ?_
  refine Re rfl ?_
  refine thenQ_n ?_
  refine W_seq rfl ?_
  refine W_seq rfl ?_
  refine W_reg rfl ?_
  refine Rv rfl rfl rfl (U_load2 rfl rfl rfl rfl) rfl rfl ?_
  refine Rv rfl rfl rfl (U_call rfl rfl (fineG_p p c _ (by assumption)) rfl) rfl rfl ?_
  refine Rv rfl rfl rfl (U_not rfl) rfl rfl ?_
  refine Rv rfl rfl rfl (U_move rfl) rfl rfl ?_
  refine Rv rfl rfl rfl (U_load2 rfl rfl rfl rfl) rfl rfl ?_
  refine Rv rfl rfl rfl (U_call rfl rfl (fineG_p q d _ (by assumption)) rfl) rfl rfl ?_
  refine Rv rfl rfl rfl (U_not rfl) rfl rfl ?_
  refine Rv rfl rfl rfl (U_pick_f rfl rfl) rfl rfl ?_
  refine Re rfl ?_
  refine thenQ_n ?_
  refine Wcond rfl rfl (fun h => nomatch h) (fun _ => ?_)
  refine W_skip rfl ?_
  refine thenQ_n ?_
  refine W_seq rfl ?_
  refine W_reg rfl ?_
  refine Rv rfl rfl rfl (U_move rfl) rfl rfl ?_
  refine Rv rfl rfl rfl (U_call rfl rfl (kinds_p b (by first | assumption | omega)) rfl) rfl rfl ?_
  refine Rv rfl rfl rfl (U_assign rfl) rfl rfl ?_
  refine Re rfl ?_
  refine thenQ_n ?_
  refine W_seq rfl ?_
  refine W_reg rfl ?_
  refine Rv rfl rfl rfl (U_move rfl) rfl rfl ?_
  refine Rv rfl rfl rfl (U_call rfl rfl (reachedG_p (kdsQ b) none (by assumption)) rfl) rfl rfl ?_
  refine Rv rfl rfl rfl (U_move rfl) rfl rfl ?_
  refine Rv rfl rfl rfl (U_extract rfl rfl) rfl rfl ?_
  refine Rv rfl rfl rfl (U_extract rfl rfl) rfl rfl ?_
  refine Rv rfl rfl rfl (U_assign rfl) rfl rfl ?_
  refine Rv rfl rfl rfl (U_assign rfl) rfl rfl ?_
  refine Re rfl ?_
  refine thenQ_n ?_
  refine W_seq rfl ?_
  refine W_seq rfl ?_
  refine W_reg rfl ?_
  refine Rv rfl rfl rfl (U_move rfl) rfl rfl ?_
  refine Rv rfl rfl rfl (U_not rfl) rfl rfl ?_
  refine Re rfl ?_
  refine thenQ_n ?_
  refine Wcond rfl rfl (fun h => nomatch h) (fun _ => ?_)
  refine W_skip rfl ?_
  refine thenQ_n ?_
  refine W_seq rfl ?_
  refine W_reg rfl ?_
  refine Rv rfl rfl rfl (U_move rfl) rfl rfl ?_
  refine Rv rfl rfl rfl (U_move rfl) rfl rfl ?_
  refine Rv rfl rfl rfl (U_convInt (by rfl) rfl (wr_i64 (by omega) (by omega))) rfl rfl ?_
  refine Rv rfl rfl rfl (U_move rfl) rfl rfl ?_
  refine Rv rfl rfl rfl (U_lenOf rfl len_ros) rfl rfl ?_
  refine Rv rfl rfl rfl (U_rem (c := ((r % ((reachedQ (kdsQ b)).length) : Nat) : Int)) rfl rfl (by omega) (tmodN _ _)) rfl rfl ?_
  have hx1 : (r % ((reachedQ (kdsQ b)).length)) < (reachedQ (kdsQ b)).length := by omega
  refine Rv rfl rfl rfl (U_indexR (j := (r % ((reachedQ (kdsQ b)).length))) rfl rfl rfl hx1) rfl rfl ?_
  refine Rv rfl rfl rfl (U_load1 rfl rfl (getM hx1)) rfl rfl ?_
  refine Rv rfl rfl rfl (U_assign rfl) rfl rfl ?_
  refine Re rfl ?_
  refine thenQ_n ?_
  refine W_seq rfl ?_
  refine W_reg rfl ?_
  refine Rv rfl rfl rfl (U_load2 rfl rfl rfl rfl) rfl rfl ?_
  refine Rv rfl rfl rfl (U_move rfl) rfl rfl ?_
  refine Rv rfl rfl rfl (U_call rfl rfl (mvG_p p c _ (by assumption) ((reachedQ (kdsQ b))[(r % ((reachedQ (kdsQ b)).length))]) (by first | assumption | omega)) rfl) rfl rfl ?_
  refine Rv rfl rfl rfl (U_move rfl) rfl rfl ?_
  refine Rv rfl rfl rfl (U_extract rfl rfl) rfl rfl ?_
  refine Rv rfl rfl rfl (U_extract rfl rfl) rfl rfl ?_
  refine Ra rfl rfl rfl (U_alloc) rfl rfl rfl ?_
  refine Rn rfl rfl rfl (U_storeAll rfl rfl rfl rfl rfl rfl) rfl ?_
  refine Rv rfl rfl rfl (U_assign rfl) rfl rfl ?_
  refine Re rfl ?_
  refine thenQ_n ?_
  refine WfrN 0 rfl rfl (T' := [(4, .rop [i64 p.n, .ros (p.ds.map i64) p.ds.length c] 0), (5, .rop [i64 q.n, .ros (q.ds.map i64) q.ds.length d] 0), (9, .ros ((kdsQ b).map i64) ((kdsQ b).length) none), (10, .ros ((reachedQ (kdsQ b)).map i64) ((reachedQ (kdsQ b)).length) none), (13, .rop [i64 ((movP p ((reachedQ (kdsQ b))[(r % ((reachedQ (kdsQ b)).length))])).n), .ros (((movP p ((reachedQ (kdsQ b))[(r % ((reachedQ (kdsQ b)).length))])).ds).map i64) (((movP p ((reachedQ (kdsQ b))[(r % ((reachedQ (kdsQ b)).length))])).ds).length) none] 0), (14, i64 0)]) (H' := []) ⟨⟨_, rfl, rfl⟩, ⟨_, rfl, rfl⟩, ⟨_, rfl, rfl⟩, ⟨_, rfl, rfl⟩, ⟨_, rfl, rfl⟩, ⟨_, rfl, rfl⟩, trivial⟩ trivial ?_
  refine W_seq rfl ?_
  refine W_reg rfl ?_
  refine Rv rfl rfl rfl (U_load2 rfl rfl rfl rfl) rfl rfl ?_
  refine Rv rfl rfl rfl (U_move rfl) rfl rfl ?_
  refine Rv rfl rfl rfl (U_call rfl rfl (leastG_p p c _ (by assumption) (kdsQ b) none (by assumption)) rfl) rfl rfl ?_
  refine Rv rfl rfl rfl (U_move rfl) rfl rfl ?_
  refine Rv rfl rfl rfl (U_extract rfl rfl) rfl rfl ?_
  refine Rv rfl rfl rfl (U_extract rfl rfl) rfl rfl ?_
  refine Rv rfl rfl rfl (U_extract rfl rfl) rfl rfl ?_
  refine Ra rfl rfl rfl (U_alloc) rfl rfl rfl ?_
  refine Rn rfl rfl rfl (U_storeAll rfl rfl rfl rfl rfl rfl) rfl ?_
  refine Rv rfl rfl rfl (U_assign rfl) rfl rfl ?_
  refine Rv rfl rfl rfl (U_assign rfl) rfl rfl ?_
  refine Re rfl ?_
  refine thenQ_n ?_
  refine WfrN 1 rfl rfl (T' := [(4, .rop [i64 p.n, .ros (p.ds.map i64) p.ds.length c] 0), (5, .rop [i64 q.n, .ros (q.ds.map i64) q.ds.length d] 0), (9, .ros ((kdsQ b).map i64) ((kdsQ b).length) none), (10, .ros ((reachedQ (kdsQ b)).map i64) ((reachedQ (kdsQ b)).length) none), (13, .rop [i64 ((movP p ((reachedQ (kdsQ b))[(r % ((reachedQ (kdsQ b)).length))])).n), .ros (((movP p ((reachedQ (kdsQ b))[(r % ((reachedQ (kdsQ b)).length))])).ds).map i64) (((movP p ((reachedQ (kdsQ b))[(r % ((reachedQ (kdsQ b)).length))])).ds).length) none] 0), (14, i64 0), (15, .rop [i64 ((movP p (lsM p (kdsQ b))).n), .ros (((movP p (lsM p (kdsQ b))).ds).map i64) (((movP p (lsM p (kdsQ b))).ds).length) none] 0), (16, i64 (lsM p (kdsQ b))), (17, i64 0)]) (H' := []) ⟨⟨_, rfl, rfl⟩, ⟨_, rfl, rfl⟩, ⟨_, rfl, rfl⟩, ⟨_, rfl, rfl⟩, ⟨_, rfl, rfl⟩, ⟨_, rfl, rfl⟩, ⟨_, rfl, rfl⟩, ⟨_, rfl, rfl⟩, ⟨_, rfl, rfl⟩, trivial⟩ trivial ?_
  refine W_seq rfl ?_
  refine W_reg rfl ?_
  refine Rv rfl rfl rfl (U_load2 rfl rfl rfl rfl) rfl rfl ?_
  refine Rv rfl rfl rfl (U_move rfl) rfl rfl ?_
  refine Rv rfl rfl rfl (U_call rfl rfl (leastG_p q d _ (by assumption) (kdsQ b) none (by assumption)) rfl) rfl rfl ?_
  refine Rv rfl rfl rfl (U_move rfl) rfl rfl ?_
  refine Rv rfl rfl rfl (U_extract rfl rfl) rfl rfl ?_
  refine Rv rfl rfl rfl (U_extract rfl rfl) rfl rfl ?_
  refine Rv rfl rfl rfl (U_extract rfl rfl) rfl rfl ?_
  refine Ra rfl rfl rfl (U_alloc) rfl rfl rfl ?_
  refine Rn rfl rfl rfl (U_storeAll rfl rfl rfl rfl rfl rfl) rfl ?_
  refine Rv rfl rfl rfl (U_assign rfl) rfl rfl ?_
  refine Rv rfl rfl rfl (U_assign rfl) rfl rfl ?_
  refine Re rfl ?_
  refine thenQ_n ?_
  refine WfrN 2 rfl rfl (T' := [(4, .rop [i64 p.n, .ros (p.ds.map i64) p.ds.length c] 0), (5, .rop [i64 q.n, .ros (q.ds.map i64) q.ds.length d] 0), (9, .ros ((kdsQ b).map i64) ((kdsQ b).length) none), (10, .ros ((reachedQ (kdsQ b)).map i64) ((reachedQ (kdsQ b)).length) none), (13, .rop [i64 ((movP p ((reachedQ (kdsQ b))[(r % ((reachedQ (kdsQ b)).length))])).n), .ros (((movP p ((reachedQ (kdsQ b))[(r % ((reachedQ (kdsQ b)).length))])).ds).map i64) (((movP p ((reachedQ (kdsQ b))[(r % ((reachedQ (kdsQ b)).length))])).ds).length) none] 0), (14, i64 0), (15, .rop [i64 ((movP p (lsM p (kdsQ b))).n), .ros (((movP p (lsM p (kdsQ b))).ds).map i64) (((movP p (lsM p (kdsQ b))).ds).length) none] 0), (16, i64 (lsM p (kdsQ b))), (17, i64 0), (18, .rop [i64 ((movP q (lsM q (kdsQ b))).n), .ros (((movP q (lsM q (kdsQ b))).ds).map i64) (((movP q (lsM q (kdsQ b))).ds).length) none] 0), (20, i64 0)]) (H' := []) ⟨⟨_, rfl, rfl⟩, ⟨_, rfl, rfl⟩, ⟨_, rfl, rfl⟩, ⟨_, rfl, rfl⟩, ⟨_, rfl, rfl⟩, ⟨_, rfl, rfl⟩, ⟨_, rfl, rfl⟩, ⟨_, rfl, rfl⟩, ⟨_, rfl, rfl⟩, ⟨_, rfl, rfl⟩, ⟨_, rfl, rfl⟩, trivial⟩ trivial ?_
  refine W_seq rfl ?_
  refine W_seq rfl ?_
  refine Wdraw rfl (by kernel_rfl) (by kernel_rfl) ?_
  refine Dv rfl rfl rfl (U_move rfl) rfl rfl ?_
  refine Dv rfl rfl rfl (U_neq rfl rfl) rfl rfl ?_
  refine Dv rfl rfl rfl (U_move rfl) rfl rfl ?_
  refine Dv rfl rfl rfl (U_move rfl) rfl rfl ?_
  refine Dv rfl rfl rfl (U_neq rfl rfl) rfl rfl ?_
  refine Dv rfl rfl rfl (U_pick_f rfl rfl) rfl rfl ?_
  refine Dv rfl rfl rfl (U_move rfl) rfl rfl ?_
  refine Dv rfl rfl rfl (U_move rfl) rfl rfl ?_
  refine Dv rfl rfl rfl (U_neq rfl rfl) rfl rfl ?_
  refine Dv rfl rfl rfl (U_pick_f rfl rfl) rfl rfl ?_
  refine Dv rfl rfl rfl (U_move rfl) rfl rfl ?_
  refine Dv rfl rfl rfl (U_load2 rfl rfl rfl rfl) rfl rfl ?_
  refine Dv rfl rfl rfl (U_call rfl rfl (fineG_p (movP p ((reachedQ (kdsQ b))[(r % ((reachedQ (kdsQ b)).length))])) none _ (by assumption)) rfl) rfl rfl ?_
  refine Dv rfl rfl rfl (U_not rfl) rfl rfl ?_
  refine Dv rfl rfl rfl (U_pick_f rfl rfl) rfl rfl ?_
  refine Dv rfl rfl rfl (U_move rfl) rfl rfl ?_
  refine Dv rfl rfl rfl (U_load2 rfl rfl rfl rfl) rfl rfl ?_
  refine Dv rfl rfl rfl (U_call rfl rfl (fineG_p (movP p (lsM p (kdsQ b))) none _ (by assumption)) rfl) rfl rfl ?_
  refine Dv rfl rfl rfl (U_not rfl) rfl rfl ?_
  refine Dv rfl rfl rfl (U_pick_f rfl rfl) rfl rfl ?_
  refine Dv rfl rfl rfl (U_move rfl) rfl rfl ?_
  refine Dv rfl rfl rfl (U_load2 rfl rfl rfl rfl) rfl rfl ?_
  refine Dv rfl rfl rfl (U_call rfl rfl (fineG_p (movP q (lsM q (kdsQ b))) none _ (by assumption)) rfl) rfl rfl ?_
  refine Dv rfl rfl rfl (U_not rfl) rfl rfl ?_
  refine Dv rfl rfl rfl (U_pick_f rfl rfl) rfl rfl ?_
  refine Dv rfl rfl rfl (U_move rfl) rfl rfl ?_
  refine Dv rfl rfl rfl (U_move rfl) rfl rfl ?_
  refine Dv rfl rfl rfl (U_move rfl) rfl rfl ?_
  refine Dv rfl rfl rfl (U_call rfl rfl (hasT_p (reachedQ (kdsQ b)) (lsM p (kdsQ b)) none (by omega) (by assumption)) rfl) rfl rfl ?_
  refine Dv rfl rfl rfl (U_not rfl) rfl rfl ?_
  refine Dv rfl rfl rfl (U_pick_f rfl rfl) rfl rfl ?_
  refine Dv rfl rfl rfl (U_move rfl) rfl rfl ?_
  refine Dv rfl rfl rfl (U_load2 rfl rfl rfl rfl) rfl rfl ?_
  refine Dv rfl rfl rfl (U_move rfl) rfl rfl ?_
  refine Dv rfl rfl rfl (U_call rfl rfl (moveOf_p p c _ (by assumption) (lsM p (kdsQ b)) (by first | assumption | omega)) rfl) rfl rfl ?_
  refine Dv rfl rfl rfl (U_load2 rfl rfl rfl rfl) rfl rfl ?_
  refine Dv rfl rfl rfl (U_call rfl rfl (samS_p (movP p (lsM p (kdsQ b))) (some (movP p (lsM p (kdsQ b))).ds.length) none (by first | assumption | omega | exact Sz.le | (simp; done) | (simp; omega))) rfl) rfl rfl ?_
  refine Dv rfl rfl rfl (U_not rfl) rfl rfl ?_
  refine Dv rfl rfl rfl (U_pick_f rfl rfl) rfl rfl ?_
  refine Dr.nil rfl ?_
  refine thenQ_n ?_
  refine Wcond rfl rfl (fun h => nomatch h) (fun _ => ?_)
  refine W_skip rfl ?_
  refine thenQ_n ?_
  refine W_seq rfl ?_
  refine W_reg rfl ?_
  refine Rv rfl rfl rfl (U_load2 rfl rfl rfl rfl) rfl rfl ?_
  refine Rv rfl rfl rfl (U_load2 rfl rfl rfl rfl) rfl rfl ?_
  refine Rv rfl rfl rfl (U_move rfl) rfl rfl ?_
  refine Rv rfl rfl rfl (U_call rfl rfl (alikeE_p p q c d N M hv hw (kdsQ b) none hok hx) rfl) rfl rfl ?_
  refine Rv rfl rfl rfl (U_move rfl) rfl rfl ?_
  refine Rv rfl rfl rfl (U_extract rfl rfl) rfl rfl ?_
  refine Rv rfl rfl rfl (U_extract rfl rfl) rfl rfl ?_
  refine Rv rfl rfl rfl (U_assign rfl) rfl rfl ?_
  refine Re rfl ?_
  refine thenQ_n ?_
  refine W_seq rfl ?_
  refine W_reg rfl ?_
  refine Rv rfl rfl rfl (U_load2 rfl rfl rfl rfl) rfl rfl ?_
  refine Rv rfl rfl rfl (U_load2 rfl rfl rfl rfl) rfl rfl ?_
  refine Rv rfl rfl rfl (U_move rfl) rfl rfl ?_
  refine Rv rfl rfl rfl (U_call rfl rfl (alikeB_p p none c N hv (kdsQ b) none hok ((reachedQ (kdsQ b))[r % (reachedQ (kdsQ b)).length]) hg) rfl) rfl rfl ?_
  refine Rv rfl rfl rfl (U_move rfl) rfl rfl ?_
  refine Rv rfl rfl rfl (U_extract rfl rfl) rfl rfl ?_
  refine Rv rfl rfl rfl (U_extract rfl rfl) rfl rfl ?_
  refine Rv rfl rfl rfl (U_assign rfl) rfl rfl ?_
  refine Rv rfl rfl rfl (U_assign rfl) rfl rfl ?_
  refine Re rfl ?_
  refine thenQ_n ?_
  refine W_seq rfl ?_
  refine W_reg rfl ?_
  refine Rv rfl rfl rfl (U_load2 rfl rfl rfl rfl) rfl rfl ?_
  refine Rv rfl rfl rfl (U_move rfl) rfl rfl ?_
  refine Rv rfl rfl rfl (U_call rfl rfl (leastI_p p none N hv (kdsQ b) none hok) rfl) rfl rfl ?_
  refine Rv rfl rfl rfl (U_move rfl) rfl rfl ?_
  refine Rv rfl rfl rfl (U_extract rfl rfl) rfl rfl ?_
  refine Rv rfl rfl rfl (U_extract rfl rfl) rfl rfl ?_
  refine Rv rfl rfl rfl (U_extract rfl rfl) rfl rfl ?_
  refine Ra rfl rfl rfl (U_alloc) rfl rfl rfl ?_
  refine Rn rfl rfl rfl (U_storeAll rfl rfl rfl rfl rfl rfl) rfl ?_
  refine Rv rfl rfl rfl (U_assign rfl) rfl rfl ?_
  refine Rv rfl rfl rfl (U_assign rfl) rfl rfl ?_
  refine Re rfl ?_
  refine thenQ_n ?_
  refine WfrN 3 rfl rfl (T' := [(4, .rop [i64 p.n, .ros (p.ds.map i64) p.ds.length c] 0), (9, .ros ((kdsQ b).map i64) ((kdsQ b).length) none), (13, .rop [i64 ((movP p ((reachedQ (kdsQ b))[(r % ((reachedQ (kdsQ b)).length))])).n), .ros (((movP p ((reachedQ (kdsQ b))[(r % ((reachedQ (kdsQ b)).length))])).ds).map i64) (((movP p ((reachedQ (kdsQ b))[(r % ((reachedQ (kdsQ b)).length))])).ds).length) none] 0), (14, i64 5), (15, .rop [i64 ((movP p (lsM p (kdsQ b))).n), .ros (((movP p (lsM p (kdsQ b))).ds).map i64) (((movP p (lsM p (kdsQ b))).ds).length) none] 0), (17, i64 0), (18, .rop [i64 ((movP q (lsM q (kdsQ b))).n), .ros (((movP q (lsM q (kdsQ b))).ds).map i64) (((movP q (lsM q (kdsQ b))).ds).length) none] 0), (20, i64 0), (21, i64 (alkM (movP p (reachedQ (kdsQ b))[r % (reachedQ (kdsQ b)).length]) p (kdsQ b))), (22, .rop [i64 ((movP p (lsM p (kdsQ b))).n), .ros (((movP p (lsM p (kdsQ b))).ds).map i64) (((movP p (lsM p (kdsQ b))).ds).length) none] 0), (23, i64 0)]) (H' := []) ⟨⟨_, rfl, rfl⟩, ⟨_, rfl, rfl⟩, ⟨_, rfl, rfl⟩, ⟨_, rfl, rfl⟩, ⟨_, rfl, rfl⟩, ⟨_, rfl, rfl⟩, ⟨_, rfl, rfl⟩, ⟨_, rfl, rfl⟩, ⟨_, rfl, rfl⟩, ⟨_, rfl, rfl⟩, ⟨_, rfl, rfl⟩, trivial⟩ trivial ?_
  refine W_seq rfl ?_
  refine W_reg rfl ?_
  refine Rv rfl rfl rfl (U_load2 rfl rfl rfl rfl) rfl rfl ?_
  refine Rv rfl rfl rfl (U_move rfl) rfl rfl ?_
  refine Rv rfl rfl rfl (U_call rfl rfl (leastM_p p none N hv (kdsQ b) none hok ((reachedQ (kdsQ b))[r % (reachedQ (kdsQ b)).length]) hg) rfl) rfl rfl ?_
  refine Rv rfl rfl rfl (U_move rfl) rfl rfl ?_
  refine Rv rfl rfl rfl (U_extract rfl rfl) rfl rfl ?_
  refine Rv rfl rfl rfl (U_extract rfl rfl) rfl rfl ?_
  refine Rv rfl rfl rfl (U_extract rfl rfl) rfl rfl ?_
  refine Ra rfl rfl rfl (U_alloc) rfl rfl rfl ?_
  refine Rn rfl rfl rfl (U_storeAll rfl rfl rfl rfl rfl rfl) rfl ?_
  refine Rv rfl rfl rfl (U_assign rfl) rfl rfl ?_
  refine Rv rfl rfl rfl (U_assign rfl) rfl rfl ?_
  refine Re rfl ?_
  refine thenQ_n ?_
  refine WfrN 4 rfl rfl (T' := [(4, .rop [i64 p.n, .ros (p.ds.map i64) p.ds.length c] 0), (13, .rop [i64 ((movP p ((reachedQ (kdsQ b))[(r % ((reachedQ (kdsQ b)).length))])).n), .ros (((movP p ((reachedQ (kdsQ b))[(r % ((reachedQ (kdsQ b)).length))])).ds).map i64) (((movP p ((reachedQ (kdsQ b))[(r % ((reachedQ (kdsQ b)).length))])).ds).length) none] 0), (14, i64 5), (15, .rop [i64 ((movP p (lsM p (kdsQ b))).n), .ros (((movP p (lsM p (kdsQ b))).ds).map i64) (((movP p (lsM p (kdsQ b))).ds).length) none] 0), (17, i64 0), (18, .rop [i64 ((movP q (lsM q (kdsQ b))).n), .ros (((movP q (lsM q (kdsQ b))).ds).map i64) (((movP q (lsM q (kdsQ b))).ds).length) none] 0), (20, i64 0), (21, i64 (alkM (movP p (reachedQ (kdsQ b))[r % (reachedQ (kdsQ b)).length]) p (kdsQ b))), (22, .rop [i64 ((movP p (lsM p (kdsQ b))).n), .ros (((movP p (lsM p (kdsQ b))).ds).map i64) (((movP p (lsM p (kdsQ b))).ds).length) none] 0), (23, i64 0), (24, .rop [i64 ((movP p (lsM p (kdsQ b))).n), .ros (((movP p (lsM p (kdsQ b))).ds).map i64) (((movP p (lsM p (kdsQ b))).ds).length) none] 0), (26, i64 0)]) (H' := []) ⟨⟨_, rfl, rfl⟩, ⟨_, rfl, rfl⟩, ⟨_, rfl, rfl⟩, ⟨_, rfl, rfl⟩, ⟨_, rfl, rfl⟩, ⟨_, rfl, rfl⟩, ⟨_, rfl, rfl⟩, ⟨_, rfl, rfl⟩, ⟨_, rfl, rfl⟩, ⟨_, rfl, rfl⟩, ⟨_, rfl, rfl⟩, ⟨_, rfl, rfl⟩, trivial⟩ trivial ?_
  refine W_seq rfl ?_
  refine W_seq rfl ?_
  refine Wdraw rfl (by kernel_rfl) (by kernel_rfl) ?_
  refine Dv rfl rfl rfl (U_move rfl) rfl rfl ?_
  refine Dv rfl rfl rfl (U_neq rfl rfl) rfl rfl ?_
  refine Dv rfl rfl rfl (U_move rfl) rfl rfl ?_
  refine Dv rfl rfl rfl (U_move rfl) rfl rfl ?_
  refine Dv rfl rfl rfl (U_neq rfl rfl) rfl rfl ?_
  refine Dv rfl rfl rfl (U_pick_t rfl rfl) rfl rfl ?_
  refine Dv rfl rfl rfl (U_move rfl) rfl rfl ?_
  refine Dv rfl rfl rfl (U_move rfl) rfl rfl ?_
  refine Dv rfl rfl rfl (U_eql rfl rfl) rfl rfl ?_
  refine Dv rfl rfl rfl (U_load2 rfl rfl rfl rfl) rfl rfl ?_
  refine Dv rfl rfl rfl (U_load2 rfl rfl rfl rfl) rfl rfl ?_
  refine Dv rfl rfl rfl (U_call rfl rfl (samF_p (movP p (lsM p (kdsQ b))) (movP q (lsM q (kdsQ b))) none none hll hlm he) rfl) rfl rfl ?_
  refine Dv rfl rfl rfl (U_neqB rfl rfl) rfl rfl ?_
  refine Dv rfl rfl rfl (U_pick_f rfl rfl) rfl rfl ?_
  refine Dv rfl rfl rfl (U_move rfl) rfl rfl ?_
  refine Dv rfl rfl rfl (U_move rfl) rfl rfl ?_
  refine Dv rfl rfl rfl (U_neq rfl rfl) rfl rfl ?_
  refine Dv rfl rfl rfl (U_pick_f rfl rfl) rfl rfl ?_
  refine Dv rfl rfl rfl (U_move rfl) rfl rfl ?_
  refine Dv rfl rfl rfl (U_move rfl) rfl rfl ?_
  refine Dv rfl rfl rfl (U_call rfl rfl (isMoG_p (alkM (movP p (reachedQ (kdsQ b))[r % (reachedQ (kdsQ b)).length]) p (kdsQ b)) (by first | assumption | omega)) rfl) rfl rfl ?_
  refine Dv rfl rfl rfl (U_not rfl) rfl rfl ?_
  refine Dv rfl rfl rfl (U_pick_f rfl rfl) rfl rfl ?_
  refine Dv rfl rfl rfl (U_move rfl) rfl rfl ?_
  refine Dv rfl rfl rfl (U_load2 rfl rfl rfl rfl) rfl rfl ?_
  refine Dv rfl rfl rfl (U_move rfl) rfl rfl ?_
  refine Dv rfl rfl rfl (U_call rfl rfl (moveOf_p (movP p ((reachedQ (kdsQ b))[(r % ((reachedQ (kdsQ b)).length))])) none _ (by assumption) (alkM (movP p (reachedQ (kdsQ b))[r % (reachedQ (kdsQ b)).length]) p (kdsQ b)) (by first | assumption | omega)) rfl) rfl rfl ?_
  refine Dv rfl rfl rfl (U_load2 rfl rfl rfl rfl) rfl rfl ?_
  refine Dv rfl rfl rfl (U_call rfl rfl (samE_p (movP (movP p (reachedQ (kdsQ b))[r % (reachedQ (kdsQ b)).length]) (alkM (movP p (reachedQ (kdsQ b))[r % (reachedQ (kdsQ b)).length]) p (kdsQ b))) p (some (movP (movP p (reachedQ (kdsQ b))[r % (reachedQ (kdsQ b)).length]) (alkM (movP p (reachedQ (kdsQ b))[r % (reachedQ (kdsQ b)).length]) p (kdsQ b))).ds.length) c (by rw [hmb]; exact hl1) hl1 hmb) rfl) rfl rfl ?_
  refine Dv rfl rfl rfl (U_not rfl) rfl rfl ?_
  refine Dv rfl rfl rfl (U_pick_f rfl rfl) rfl rfl ?_
  refine Dv rfl rfl rfl (U_move rfl) rfl rfl ?_
  refine Dv rfl rfl rfl (U_move rfl) rfl rfl ?_
  refine Dv rfl rfl rfl (U_neq rfl rfl) rfl rfl ?_
  refine Dv rfl rfl rfl (U_pick_f rfl rfl) rfl rfl ?_
  refine Dv rfl rfl rfl (U_move rfl) rfl rfl ?_
  refine Dv rfl rfl rfl (U_move rfl) rfl rfl ?_
  refine Dv rfl rfl rfl (U_neq rfl rfl) rfl rfl ?_
  refine Dv rfl rfl rfl (U_pick_f rfl rfl) rfl rfl ?_
  refine Dr.nil rfl ?_
  refine thenQ_n ?_
  refine WcondP rfl rfl (fun h => absurd h (by decide)) (fun _ => ?_)
  refine W_skip rfl ?_
  refine thenQ_n ?_
  refine W_seq rfl ?_
  refine W_reg rfl ?_
  refine Rv rfl rfl rfl (U_load2 rfl rfl rfl rfl) rfl rfl ?_
  refine Rv rfl rfl rfl (U_load2 rfl rfl rfl rfl) rfl rfl ?_
  refine Rv rfl rfl rfl (U_call rfl rfl (samS_p (movP p (lsM p (kdsQ b))) none none (by first | assumption | omega | exact Sz.le | (simp; done) | (simp; omega))) rfl) rfl rfl ?_
  refine Rv rfl rfl rfl (U_move rfl) rfl rfl ?_
  refine Rv rfl rfl rfl (U_move rfl) rfl rfl ?_
  refine Rv rfl rfl rfl (U_eql rfl rfl) rfl rfl ?_
  refine Rv rfl rfl rfl (U_pick_t rfl rfl) rfl rfl ?_
  refine Rv rfl rfl rfl (U_move rfl) rfl rfl ?_
  refine Rv rfl rfl rfl (U_load2 rfl rfl rfl rfl) rfl rfl ?_
  refine Rv rfl rfl rfl (U_load2 rfl rfl rfl rfl) rfl rfl ?_
  refine Rv rfl rfl rfl (U_call rfl rfl (samS_p (movP p (lsM p (kdsQ b))) none none (by first | assumption | omega | exact Sz.le | (simp; done) | (simp; omega))) rfl) rfl rfl ?_
  refine Rv rfl rfl rfl (U_pick_t rfl rfl) rfl rfl ?_
  refine Rv rfl rfl rfl (U_move rfl) rfl rfl ?_
  refine Rv rfl rfl rfl (U_fieldAddrR rfl) rfl rfl ?_
  refine Rv rfl rfl rfl (U_load1 rfl rfl rfl) rfl rfl ?_
  refine Rv rfl rfl rfl (U_fieldAddrR rfl) rfl rfl ?_
  refine Rv rfl rfl rfl (U_load1 rfl rfl rfl) rfl rfl ?_
  refine Rv rfl rfl rfl (U_call rfl rfl (behindF_p (movP p (lsM p (kdsQ b))).ds p.ds none c hll hl1 (by rw [movP_len]) (by have h1 := ls_le (p := p) (G_0 (reach_G hok)); rw [movP_0 hv] at h1; exact h1)) rfl) rfl rfl ?_
  refine Rv rfl rfl rfl (U_not rfl) rfl rfl ?_
  refine Rv rfl rfl rfl (U_pick_t rfl rfl) rfl rfl ?_
  refine Rv rfl rfl rfl (U_move rfl) rfl rfl ?_
  refine Rv rfl rfl rfl (U_fieldAddrR rfl) rfl rfl ?_
  refine Rv rfl rfl rfl (U_load1 rfl rfl rfl) rfl rfl ?_
  refine Rv rfl rfl rfl (U_fieldAddrR rfl) rfl rfl ?_
  refine Rv rfl rfl rfl (U_load1 rfl rfl rfl) rfl rfl ?_
  refine Rv rfl rfl rfl (U_call rfl rfl (behindF_p (movP p (lsM p (kdsQ b))).ds (movP p (reachedQ (kdsQ b))[r % (reachedQ (kdsQ b)).length]).ds none none hll hlg (by rw [movP_len, movP_len]) (ls_le hg)) rfl) rfl rfl ?_
  refine Rv rfl rfl rfl (U_not rfl) rfl rfl ?_
  refine Rv rfl rfl rfl (U_pick_t rfl rfl) rfl rfl ?_
  refine Rv rfl rfl rfl (U_move rfl) rfl rfl ?_
  refine Rv rfl rfl rfl (U_call rfl rfl (works_p) rfl) rfl rfl ?_
  refine Rv rfl rfl rfl (U_pick_t rfl rfl) rfl rfl ?_
  refine Rv rfl rfl rfl (U_assign rfl) rfl rfl ?_
  refine Re rfl ?_
  refine thenQ_n ?_
  refine W_ret rfl ?_
  exact retL (rlT rfl rl0) rfl rfl
theorem plateAlike_p (p q : Pl) (c d : Option Nat) (b r : Nat) (hb8 : b < 256) (hr256 : r < 256) : Pure Try.prog 11 [.agg [i64 p.n, intsA p.ds c], .agg [i64 q.n, intsA q.ds d], .int .u8 (b : Nat), .int .u8 (r : Nat)] (.bool true) := by
  cases hf : (!(!grt p && decide (chkP p = 0)) || !(!grt q && decide (chkP q = 0))) with
  | true => exact plateAlike0_p p q c d b r hf
  | false =>
    rw [Bool.or_eq_false_iff, Bool.not_eq_false', Bool.not_eq_false'] at hf
    obtain ⟨N, hv⟩ := vp_of (fine_ok hf.1)
    obtain ⟨M, hw⟩ := vp_of (fine_ok hf.2)
    rcases alk_cases hv hw (kds_ok b) with ⟨h1, h2⟩ | ⟨h1, h2⟩
    · exact plateAlike1_p p q c d b r hb8 hr256 N M hv hw h1 h2
    · exact plateAlike2_p p q c d b r hb8 hr256 N M hv hw h1 h2
end Go.Proofs.Ythoodfiacfmhgaa
end
