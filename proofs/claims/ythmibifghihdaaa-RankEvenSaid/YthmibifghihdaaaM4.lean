import Derived.KernelRfl
import Derived.Test.YthmibifghihdaaaM3
set_option linter.all false
section
namespace Go.Proofs.Ythmibifghihdaaa
set_option maxRecDepth 20000
open Go.AE
def DC (ks : List (Nat × Nat)) (m : Nat) : Prop := ∀ p ∈ ks, m.testBit p.2 = true → m.testBit p.1 = true
def nxR (bf : Nat → Nat) (m a : Nat) : Bool := decide ((((m >>> a) &&& 1 : Nat) : Int) = 0) && decide (((bf a &&& m : Nat) : Int) = ((bf a : Nat) : Int))
theorem zero_bt {a k : Nat} : decide ((((a >>> k) &&& 1 : Nat) : Int) = 0) = !a.testBit k := by
  rw [← bt_eq]
  have := bit_lt (a := a) (k := k)
  unfold bt
  by_cases h : (((a >>> k) &&& 1 : Nat) : Int) = 1
  · simp only [h]; decide
  · have : (((a >>> k) &&& 1 : Nat) : Int) = 0 := by omega
    simp only [this]; decide
theorem sub_iff {x m : Nat} : x ^^^ (x &&& m) = 0 ↔ ∀ b, x.testBit b = true → m.testBit b = true := by
  constructor
  · intro h b hb
    have : (x ^^^ (x &&& m)).testBit b = false := by rw [h]; simp
    rw [Nat.testBit_xor, Nat.testBit_and, hb] at this
    simpa using this
  · intro h
    apply Nat.eq_of_testBit_eq; intro b
    rw [Nat.testBit_xor, Nat.testBit_and, Nat.zero_testBit]
    cases hb : x.testBit b with
    | false => simp
    | true => simp [h b hb]
theorem and_iff {x m : Nat} : x &&& m = x ↔ ∀ b, x.testBit b = true → m.testBit b = true := by
  constructor
  · intro h b hb
    rw [← h, Nat.testBit_and] at hb
    exact (Bool.and_eq_true _ _ ▸ hb).2
  · intro h
    apply Nat.eq_of_testBit_eq; intro b
    rw [Nat.testBit_and]
    cases hb : x.testBit b with
    | false => simp
    | true => simp [h b hb]
section
variable {n : Nat} {ks : List (Nat × Nat)} {m : Nat}
theorem nxB_iff (hv : VB n ks) {a : Nat} : nxB (briQ n ks) m a = true ↔ m.testBit a = false ∧ ∀ x, Pth ks x a → m.testBit x = true := by
  unfold nxB
  rw [zero_bt, Bool.and_eq_true, decide_eq_true_eq]
  have : ((((briQ n ks).g a ^^^ ((briQ n ks).g a &&& m) : Nat) : Int) = 0) ↔ (briQ n ks).g a ^^^ ((briQ n ks).g a &&& m) = 0 := by omega
  rw [this, sub_iff]
  simp only [Bool.not_eq_true', briQ_tb hv]
theorem nxR_iff {bf : Nat → Nat} (hb : ∀ a x, (bf a).testBit x = true ↔ (x, a) ∈ ks) {a : Nat} : nxR bf m a = true ↔ m.testBit a = false ∧ ∀ x, (x, a) ∈ ks → m.testBit x = true := by
  unfold nxR
  rw [zero_bt, Bool.and_eq_true, decide_eq_true_eq]
  have : (((bf a &&& m : Nat) : Int) = ((bf a : Nat) : Int)) ↔ bf a &&& m = bf a := by omega
  rw [this, and_iff]
  simp only [Bool.not_eq_true', hb]
theorem nxR_nxt (bf : Nat → Nat) : Nxt (nxR bf) := fun m a h => by
  unfold nxR at h
  rw [zero_bt, Bool.and_eq_true] at h
  simpa using h.1
theorem dc_pth (hd : DC ks m) {a b : Nat} (h : Pth ks a b) (hb : m.testBit b = true) : m.testBit a = true := by
  induction h with
  | one h => exact hd _ h hb
  | more h _ ih => exact hd _ h (ih hb)
theorem pth_last {a b : Nat} (h : Pth ks a b) : ∃ x, (x, b) ∈ ks ∧ (a = x ∨ Pth ks a x) := by
  induction h with
  | one h => exact ⟨_, h, .inl rfl⟩
  | more h _ ih =>
    obtain ⟨x, h1, h2⟩ := ih
    rcases h2 with rfl | h2
    · exact ⟨_, h1, .inr (.one h)⟩
    · exact ⟨x, h1, .inr (.more h h2)⟩
theorem nx_same (hv : VB n ks) {bf : Nat → Nat} (hb : ∀ a x, (bf a).testBit x = true ↔ (x, a) ∈ ks) (hd : DC ks m) {a : Nat} : nxB (briQ n ks) m a = nxR bf m a := by
  rw [Bool.eq_iff_iff, nxB_iff hv, nxR_iff hb]
  refine and_congr_right fun _ => ⟨fun h x hx => h x (.one hx), fun h x hx => ?_⟩
  obtain ⟨y, h1, h2⟩ := pth_last hx
  rcases h2 with rfl | h2
  · exact h x h1
  · exact dc_pth hd h2 (h y h1)
theorem dc_0 : DC ks 0 := fun p _ h => by simp at h
theorem dc_full (hv : VB n ks) : DC ks (full n) := fun p hp _ => by rw [full_tb]; have := hv.2.2.2 p hp; simp [this.1]
theorem dc_ad (hd : DC ks m) {a : Nat} (h : ∀ x, (x, a) ∈ ks → m.testBit x = true) : DC ks (ad m a) := by
  intro p hp hb
  rw [ad_tb] at hb ⊢
  by_cases e : a = p.2
  · subst e; rw [h p.1 hp]; rfl
  · rw [hd p hp (by simpa [e] using hb)]; rfl
theorem nxB_dc (hv : VB n ks) (hd : DC ks m) {a : Nat} (h : nxB (briQ n ks) m a = true) : DC ks (ad m a) := dc_ad hd fun x hx => ((nxB_iff hv).1 h).2 x (.one hx)
theorem up_dc {bf : Nat → Nat} (hb : ∀ a x, (bf a).testBit x = true ↔ (x, a) ∈ ks) {nx : Nat → Nat → Bool} (hnx : ∀ m a, nx m a = true → nxR bf m a = true) : ∀ (k m : Nat), cntN n m = k → m < 2 ^ n → up n nx m ≠ 0 → DC ks m
  | 0, m, h, hm, _ => by
    have e : m = 0 := by
      rcases Nat.eq_zero_or_pos m with e | e
      · exact e
      · have := cnt_pos hm (by omega); omega
    subst e; exact dc_0
  | k + 1, m, h, hm, hu => by
    by_cases e : m = 0
    · subst e; exact dc_0
    · rw [up_eq hm e] at hu
      have : ∃ a ∈ List.range n, (if upN n nx m a = true then up n nx (rm m a) else 0) ≠ 0 := by
        apply Classical.byContradiction
        intro hno
        apply hu
        have : ((List.range n).map fun a => if upN n nx m a = true then up n nx (rm m a) else 0) = (List.range n).map fun _ => 0 := List.map_congr_left fun a ha => by
          apply Classical.byContradiction
          intro h2; exact hno ⟨a, ha, h2⟩
        rw [this]
        have e : ∀ (l : List Nat), (l.map fun _ => 0).sum = 0 := fun l => by induction l with | nil => rfl | cons x l ih => simpa using ih
        exact e _
      obtain ⟨a, ha, h2⟩ := this
      split at h2
      · rename_i h3
        simp only [upN, Bool.and_eq_true] at h3
        have h4 := cnt_rm (List.mem_range.1 ha) h3.1
        have h5 := rm_lt h3.1
        have h6 := up_dc hb hnx k (rm m a) (by omega) (by omega) h2
        have h7 := dc_ad h6 ((nxR_iff hb).1 (hnx _ _ h3.2)).2
        rwa [ad_rm h3.1] at h7
      · exact absurd rfl h2
theorem up_same (hv : VB n ks) {bf : Nat → Nat} (hb : ∀ a x, (bf a).testBit x = true ↔ (x, a) ∈ ks) : ∀ (k m : Nat), cntN n m = k → m < 2 ^ n → up n (nxB (briQ n ks)) m = up n (nxR bf) m
  | 0, m, h, hm => by
    have e : m = 0 := by
      rcases Nat.eq_zero_or_pos m with e | e
      · exact e
      · have := cnt_pos hm (by omega); omega
    subst e; rw [up_0, up_0]
  | k + 1, m, h, hm => by
    by_cases e : m = 0
    · subst e; rw [up_0, up_0]
    · rw [up_eq hm e, up_eq hm e]
      refine sum_congr fun a ha => ?_
      by_cases h1 : m.testBit a = true
      · have h4 := cnt_rm (List.mem_range.1 ha) h1
        have h5 := rm_lt h1
        have ih := up_same hv hb k (rm m a) (by omega) (by omega)
        by_cases h6 : up n (nxR bf) (rm m a) = 0
        · rw [ih, h6]; simp
        · have hd := up_dc hb (nx := nxR bf) (fun _ _ h => h) k (rm m a) (by omega) (by omega) h6
          have e1 : upN n (nxB (briQ n ks)) m a = upN n (nxR bf) m a := by unfold upN; rw [nx_same hv hb hd]
          rw [e1, ih]
      · simp [upN, h1]
theorem acy_pth (hv : VB n ks) (ha : Acy n ks) {a : Nat} : ¬ Pth ks a a := fun h => by
  have h1 := pth_in hv h
  have h2 := ha a h1.1
  rw [bt_eq] at h2
  rw [(faQ_tb hv).2 h] at h2; cases h2
theorem nxt_from (hv : VB n ks) (ha : Acy n ks) (m : Nat) : ∀ (k a : Nat), a < n → m.testBit a = false → ((List.range n).countP fun x => !m.testBit x && ((briQ n ks).g a).testBit x) ≤ k → ∃ b, b < n ∧ nxB (briQ n ks) m b = true := by
  intro k
  induction k with
  | zero =>
    intro a han hma h
    refine ⟨a, han, (nxB_iff hv).2 ⟨hma, fun x hx => ?_⟩⟩
    have h0 : ((List.range n).countP fun x => !m.testBit x && ((briQ n ks).g a).testBit x) = 0 := by omega
    rw [List.countP_eq_zero] at h0
    have := h0 x (List.mem_range.2 (pth_in hv hx).1)
    rw [(briQ_tb hv).2 hx] at this
    simpa using this
  | succ k ih =>
    intro a han hma h
    by_cases hex : ∃ x, x < n ∧ m.testBit x = false ∧ Pth ks x a
    · obtain ⟨x, hx, hmx, hp⟩ := hex
      refine ih x hx hmx ?_
      have := cnt_more (p := fun y => !m.testBit y && ((briQ n ks).g x).testBit y) (q := fun y => !m.testBit y && ((briQ n ks).g a).testBit y) (List.range n) (fun y _ hy => by
        simp only [Bool.and_eq_true] at hy ⊢
        exact ⟨hy.1, (briQ_tb hv).2 (((briQ_tb hv).1 hy.2).trans hp)⟩) ⟨x, List.mem_range.2 hx, by
          have : ((briQ n ks).g x).testBit x = false := by
            cases e : ((briQ n ks).g x).testBit x with
            | false => rfl
            | true => exact absurd ((briQ_tb hv).1 e) (acy_pth hv ha)
          simp [this], by simp [hmx, (briQ_tb hv).2 hp]⟩
      omega
    · refine ⟨a, han, (nxB_iff hv).2 ⟨hma, fun x hx => ?_⟩⟩
      cases e : m.testBit x with
      | true => rfl
      | false => exact absurd ⟨x, (pth_in hv hx).1, e, hx⟩ hex
theorem nxt_some (hv : VB n ks) (ha : Acy n ks) (hm : m < 2 ^ n) (hf : m ≠ full n) : ∃ b, b < n ∧ nxB (briQ n ks) m b = true := by
  have : ∃ a, a < n ∧ m.testBit a = false := by
    apply Classical.byContradiction
    intro hno
    apply hf
    refine eq_full hm fun a h => ?_
    cases e : m.testBit a with
    | true => rfl
    | false => exact absurd ⟨a, h, e⟩ hno
  obtain ⟨a, h1, h2⟩ := this
  exact nxt_from hv ha m _ a h1 h2 (Nat.le_refl _)
theorem sum_pos {f : Nat → Nat} {l : List Nat} {a : Nat} (ha : a ∈ l) (h : 0 < f a) : 0 < (l.map f).sum := by
  induction l with
  | nil => simp at ha
  | cons x l ih =>
    rw [List.map_cons, List.sum_cons]
    rcases List.mem_cons.1 ha with rfl | ha
    · omega
    · have := ih ha; omega
def ordS (n : Nat) (br : R10) : Nat → List Nat × Nat
  | 0 => ([], 0)
  | k + 1 => match nxL n br (ordS n br k).2 with
    | [] => ordS n br k
    | a :: _ => ((ordS n br k).1 ++ [a], ad (ordS n br k).2 a)
abbrev ordG (n : Nat) (ks : List (Nat × Nat)) : List Nat := (ordS n (briQ n ks) n).1
theorem ordS_S {br : R10} {k a : Nat} {l : List Nat} (h : nxL n br (ordS n br k).2 = a :: l) : ordS n br (k + 1) = ((ordS n br k).1 ++ [a], ad (ordS n br k).2 a) := by rw [ordS, h]
theorem ordS_ok (hv : VB n ks) (ha : Acy n ks) : ∀ k, k ≤ n → (ordS n (briQ n ks) k).1.length = k ∧ (ordS n (briQ n ks) k).2 < 2 ^ n ∧ cntN n (ordS n (briQ n ks) k).2 = k ∧ DC ks (ordS n (briQ n ks) k).2
  | 0, _ => ⟨rfl, Nat.two_pow_pos n, by show cntN n 0 = 0; simp [cntN], dc_0⟩
  | k + 1, hk => by
    obtain ⟨h1, h2, h3, h4⟩ := ordS_ok hv ha k (by omega)
    have hne : (ordS n (briQ n ks) k).2 ≠ full n := by
      intro e; rw [e] at h3
      have : cntN n (full n) = n := by
        unfold cntN
        have : (List.range n).countP (fun a => (full n).testBit a) = (List.range n).length := by
          rw [List.countP_eq_length]; intro a ha; rw [full_tb]; simpa using ha
        rw [this, List.length_range]
      omega
    obtain ⟨b, hb, hnb⟩ := nxt_some hv ha h2 hne
    have hmem : b ∈ nxL n (briQ n ks) (ordS n (briQ n ks) k).2 := nxL_mem.2 ⟨hb, hnb⟩
    cases e : nxL n (briQ n ks) (ordS n (briQ n ks) k).2 with
    | nil => rw [e] at hmem; simp at hmem
    | cons a l =>
      have hx : a ∈ nxL n (briQ n ks) (ordS n (briQ n ks) k).2 := by rw [e]; simp
      have hx := nxL_mem.1 hx
      rw [ordS_S e]
      exact ⟨by simp [h1], ad_lt h2 hx.1, by rw [cnt_ad hx.1 (nxB_tb hx.2), h3], nxB_dc hv h4 hx.2⟩
theorem ordS_some (hv : VB n ks) (ha : Acy n ks) {k : Nat} (hk : k < n) : ∃ a l, nxL n (briQ n ks) (ordS n (briQ n ks) k).2 = a :: l := by
  have h := (ordS_ok hv ha (k + 1) (by omega)).1
  cases e : nxL n (briQ n ks) (ordS n (briQ n ks) k).2 with
  | nil =>
    rw [ordS, e] at h
    have := (ordS_ok hv ha k (by omega)).1
    simp only at h; omega
  | cons a l => exact ⟨a, l, rfl⟩
end
end Go.Proofs.Ythmibifghihdaaa
end

section
namespace Go.Proofs.Ythmibifghihdaaa
set_option maxRecDepth 20000
open Go.AE
theorem ruledC0G_p (n : Nat) (ks : List (Nat × Nat)) (c : Option Nat) (hv : VB n ks) (h40 : ks.length ≤ 40) (ha : Acy n ks) : Pure Try.prog 63 [bknA n ks c, .nils] (.tup [skyP n ks c (seQ ks) (faQ n ks) (briQ n ks), i64 0]) :=
  (ruledCG_p n ks c hv h40 [] none (by simp) rfl (by simp) ha).weak (leL_cons (le_refl _) (leL_cons le_nils (leL_refl _)))
theorem ruledC1G_p (n : Nat) (ks : List (Nat × Nat)) (c : Option Nat) (hv : VB n ks) (h40 : ks.length ≤ 40) (x : Int) (hin : inL 0 (((n : Nat) : Int) - 1) [x] = true) (ha : Acy n ks) : Pure Try.prog 63 [bknA n ks c, intsA [x] (some 1)] (.tup [skyP n ks c (seQ ks) (faQ n ks) (briQ n ks), i64 0]) :=
  ruledCG_p n ks c hv h40 [x] (some 1) (by simp) hin (by simp) ha
theorem order_e (b : Bk) (c : Option Nat) (hl : b.ls.length ≤ 1000000) (e : Int) (he : e ≠ 0) (hr : Pure Try.prog 63 [bookA b c, .nils] (.tup [.nilp, i64 e])) : Pure Try.prog 26 [bookA b c] (.tup [natsA [] none, i64 e]) := by
  refine pure_of_body Try.func26 (c := body Try.f26) rfl (by simp [Try.ntmps26]) fun w0 Φ0 => ?_
  refine W_seq rfl ?_
  refine W_reg rfl ?_
  refine Rv rfl rfl rfl (U_boxF rfl rfl rfl) rfl rfl ?_
  refine Rv rfl rfl rfl (U_assign rfl) rfl rfl ?_
  refine Rv rfl rfl rfl (U_assign rfl) rfl rfl ?_
  refine Re rfl ?_
  refine thenQ_n ?_
  refine W_seq rfl ?_
  refine W_reg rfl ?_
  refine Rv rfl rfl rfl (U_load2 rfl rfl rfl rfl) rfl rfl ?_
  refine Rv rfl rfl rfl (U_call rfl rfl (hr) rfl) rfl rfl ?_
  refine Rv rfl rfl rfl (U_move rfl) rfl rfl ?_
  refine Rv rfl rfl rfl (U_extract rfl rfl) rfl rfl ?_
  refine Rv rfl rfl rfl (U_extract rfl rfl) rfl rfl ?_
  refine Rv rfl rfl rfl (U_assign rfl) rfl rfl ?_
  refine Rv rfl rfl rfl (U_assign rfl) rfl rfl ?_
  refine Re rfl ?_
  refine thenQ_n ?_
  refine W_seq rfl ?_
  refine W_seq rfl ?_
  refine W_reg rfl ?_
  refine Rv rfl rfl rfl (U_move rfl) rfl rfl ?_
  refine Rv rfl rfl rfl (U_neq rfl rfl) rfl rfl ?_
  refine Re rfl ?_
  refine thenQ_n ?_
  refine WcondP rfl rfl (fun hc0 => ?_) (fun hc0 => absurd (he) hc0)
  refine W_seq rfl ?_
  refine W_reg rfl ?_
  refine Rv rfl rfl rfl (U_move rfl) rfl rfl ?_
  refine Rv rfl rfl rfl (U_assign rfl) rfl rfl ?_
  refine Rv rfl rfl rfl (U_assign rfl) rfl rfl ?_
  refine Re rfl ?_
  refine thenQ_n ?_
  refine WweakT (j := 2) rfl (le_nils (cs := [])) ?_
  refine W_ret rfl ?_
  refine thenQ_r ?_
  exact retL (rlT rfl (rlT rfl rl0)) (by first | rfl | (simp only [packA]; rfl; first | done | rfl)) rfl
theorem order_g (n : Nat) (ks : List (Nat × Nat)) (c : Option Nat) (hv : VB n ks) (h40 : ks.length ≤ 40) (ha : Acy n ks) : Pure Try.prog 26 [bknA n ks c] (.tup [natsA (ordG n ks) none, i64 0]) := by
  have hv' := hv
  obtain ⟨hn1, hn, hkl, hk⟩ := hv'
  have hk2 := vb_lt hv
  refine pure_of_body Try.func26 (c := body Try.f26) rfl (by simp [Try.ntmps26]) fun w0 Φ0 => ?_
  refine W_seq rfl ?_
  refine W_reg rfl ?_
  refine Rv rfl rfl rfl (U_boxF rfl rfl rfl) rfl rfl ?_
  refine Rv rfl rfl rfl (U_assign rfl) rfl rfl ?_
  refine Rv rfl rfl rfl (U_assign rfl) rfl rfl ?_
  refine Re rfl ?_
  refine thenQ_n ?_
  refine W_seq rfl ?_
  refine W_reg rfl ?_
  refine Rv rfl rfl rfl (U_load2 rfl rfl rfl rfl) rfl rfl ?_
  refine Rv rfl rfl rfl (U_call rfl rfl (ruledC0G_p n ks c hv h40 ha) rfl) rfl rfl ?_
  refine Rv rfl rfl rfl (U_move rfl) rfl rfl ?_
  refine Rv rfl rfl rfl (U_extract rfl rfl) rfl rfl ?_
  refine Rv rfl rfl rfl (U_extract rfl rfl) rfl rfl ?_
  refine Rv rfl rfl rfl (U_assign rfl) rfl rfl ?_
  refine Rv rfl rfl rfl (U_assign rfl) rfl rfl ?_
  refine Re rfl ?_
  refine thenQ_n ?_
  refine W_seq rfl ?_
  refine W_seq rfl ?_
  refine W_reg rfl ?_
  refine Rv rfl rfl rfl (U_move rfl) rfl rfl ?_
  refine Rv rfl rfl rfl (U_neq rfl rfl) rfl rfl ?_
  refine Re rfl ?_
  refine thenQ_n ?_
  refine WcondP rfl rfl (fun h => absurd h (by decide)) (fun _ => ?_)
  refine W_skip rfl ?_
  refine thenQ_n ?_
  refine W_seq rfl ?_
  refine W_reg rfl ?_
  refine Ra rfl rfl rfl (U_alloc) rfl rfl rfl ?_
  refine Re rfl ?_
  refine thenQ_n ?_
  refine W_seq rfl ?_
  refine W_reg rfl ?_
  refine Ra rfl rfl rfl (U_alloc) rfl rfl rfl ?_
  refine Rn rfl rfl rfl (U_store1 rfl rfl rfl rfl) rfl ?_
  refine Re rfl ?_
  refine thenQ_n ?_
  refine W_seq rfl ?_
  refine W_seq rfl ?_
  refine W_reg rfl ?_
  refine Rv rfl rfl rfl (U_fieldAddrR rfl) rfl rfl ?_
  refine Rv rfl rfl rfl (U_load1 rfl rfl rfl) rfl rfl ?_
  refine Rv rfl rfl rfl (U_move rfl) rfl rfl ?_
  refine Re rfl ?_
  refine thenQ_n ?_
  refine W_block rfl ?_
  refine WweakH (b := 0) (cs' := [.ros [] 0 none]) rfl (leL_cons le_nils (leL_refl _)) ?_
  refine LoopTo (T' := [(4, .rop (skC n ks c (seQ ks) (faQ n ks) (briQ n ks)) 0), (6, .ptr 0 0), (7, .ptr 1 0), (18, i64 ((n : Nat) : Int)), (19, i64 ((0 : Nat) : Int))]) (H' := [(0, some (.cells [.ros (((ordS n (briQ n ks) 0).1).map n64) (((ordS n (briQ n ks) 0).1).length) none] 25)), (1, some (.cells [i64 (((ordS n (briQ n ks) 0).2 : Nat) : Int)] 3))]) (n := 2) rfl (fun mz_ qz_ => ∃ (k : Nat), k ≤ n ∧ mz_ = n - k ∧ qz_ = ⟨[(4, .rop (skC n ks c (seQ ks) (faQ n ks) (briQ n ks)) 0), (6, .ptr 0 0), (7, .ptr 1 0), (18, i64 ((n : Nat) : Int)), (19, i64 ((k : Nat) : Int))], [(0, some (.cells [.ros (((ordS n (briQ n ks) k).1).map n64) (((ordS n (briQ n ks) k).1).length) none] 25)), (1, some (.cells [i64 (((ordS n (briQ n ks) k).2 : Nat) : Int)] 3))], 2, []⟩) ⟨0, (by omega), rfl, rfl⟩ id ⟨eD rfl rfl, e_ rfl rfl, e_ rfl rfl, eD rfl rfl, eD rfl rfl, trivial⟩ ⟨rD rfl rfl rfl, rD rfl rfl rfl, trivial⟩ rfl rfl rfl rfl (fun _ _ => rfl) ?_
  rintro _ _ ⟨k, hi0_0, rfl, rfl⟩
  refine W_seq rfl ?_
  refine W_reg rfl ?_
  refine Rv rfl rfl rfl (U_lss rfl rfl) rfl rfl ?_
  refine Re rfl ?_
  refine thenQ_n ?_
  refine W_seq rfl ?_
  refine WcondP rfl rfl (fun hc1 => ?_) (fun hc1 => ?_)
  · refine W_skip rfl ?_
    refine thenQ_n ?_
    refine W_seq rfl ?_
    refine W_block rfl ?_
    refine W_seq rfl ?_
    refine W_reg rfl ?_
    refine Rv rfl rfl rfl (U_move rfl) rfl rfl ?_
    refine Rv rfl rfl rfl (U_load1 rfl rfl rfl) rfl rfl ?_
    refine Rv rfl rfl rfl (U_call rfl rfl (next_p n ks c (seQ ks) (faQ n ks) (briQ n ks) ((ordS n (briQ n ks) k).2)) rfl) rfl rfl ?_
    refine Re rfl ?_
    refine thenQ_n ?_
    refine W_block rfl ?_
    obtain ⟨a0, l0, hnl⟩ := ordS_some hv ha (show k < n by omega)
    have hok := ordS_ok hv ha k (by omega)
    have hok1 := ordS_ok hv ha (k + 1) (by omega)
    have hlt : (ordS n (briQ n ks) k).2 < 1024 := Nat.lt_of_lt_of_le hok.2.1 (Nat.pow_le_pow_right (by decide) hn)
    have ha0 : a0 < n := (nxL_mem.1 (by rw [hnl]; simp : a0 ∈ nxL n (briQ n ks) (ordS n (briQ n ks) k).2)).1
    have hit : IterP Try.prog 92 [] [.rop [skyP n ks c (seQ ks) (faQ n ks) (briQ n ks)] 0, .rop [n64 (ordS n (briQ n ks) k).2] 0] ((a0 :: l0).map n64) := by rw [← hnl]; exact next_it n ks c (seQ ks) (faQ n ks) (briQ n ks) hn (ordS n (briQ n ks) k).2 hlt
    refine W_rangeS (T' := [(4, .rop (skC n ks c (seQ ks) (faQ n ks) (briQ n ks)) 0), (6, .ptr 0 0), (7, .ptr 1 0), (18, i64 ((n : Nat) : Int)), (19, i64 ((k : Nat) : Int)), (23, .fn 92 [] [.rop [.rop (skC n ks c (seQ ks) (faQ n ks) (briQ n ks)) 0] 0, .rop [i64 (((ordS n (briQ n ks) k).2 : Nat) : Int)] 0])]) (n := 2) rfl rfl (hit) 0 (by simp) (fun i => [(0, some (.cells [.ros (((ordS n (briQ n ks) k).1).map n64) (((ordS n (briQ n ks) k).1).length) none] 25)), (1, some (.cells [i64 (((ordS n (briQ n ks) k).2 : Nat) : Int)] 3))]) [(0, some (.cells [.ros (((ordS n (briQ n ks) (k + 1)).1).map n64) (((ordS n (briQ n ks) (k + 1)).1).length) none] 25)), (1, some (.cells [i64 (((ordS n (briQ n ks) (k + 1)).2 : Nat) : Int)] 3))] (.exit 2) ⟨eD rfl rfl, e_ rfl rfl, e_ rfl rfl, eD rfl rfl, eD rfl rfl, eD rfl rfl, trivial⟩ ⟨rD rfl rfl rfl, rD rfl rfl rfl, trivial⟩ rfl rfl rfl rfl rfl (fun i => ⟨rD rfl rfl rfl, rD rfl rfl rfl, trivial⟩) ⟨rD rfl rfl rfl, rD rfl rfl rfl, trivial⟩ ?_ ?_ ?_
    · intro i x_ hlt_ hx_ C_ hC_ N_ hN_
      exact absurd hlt_ (Nat.not_lt_zero _)
    · intro x_ hx_ C_ hC_ N_ hN_
      obtain ⟨hi_, rfl⟩ := mapAt hx_
      obtain ⟨_, w0_, Wr_, Φ0_, ro_, nt_, k0_, ρ0_⟩ := C_
      have hC2_ : _ = Try.prog := hC_
      subst hC2_
      intro ρ_ Φ_ w_ lc_
      refine W_reg rfl ?_
      refine Rv rfl rfl rfl (U_assign rfl) rfl rfl ?_
      refine Re rfl ?_
      refine ⟨rfl, ?_⟩
      refine W_block rfl ?_
      refine W_seq rfl ?_
      refine Wdraw rfl (by kernel_rfl) (by kernel_rfl) ?_
      refine Dv rfl rfl rfl (U_load1 rfl rfl rfl) rfl rfl ?_
      refine Dv rfl rfl rfl (U_move rfl) rfl rfl ?_
      refine Dv rfl rfl rfl (U_shl rfl rfl (by omega) (shlN (n := 1) (i := a0) (shl63 (by omega)) (by omega))) rfl rfl ?_
      refine Dv rfl rfl rfl (U_or rfl rfl (orN (a := (ordS n (briQ n ks) k).2) (b := 1 <<< a0) (lt63 hlt) (lt63 (shl1024 (by omega))))) rfl rfl ?_
      refine Dn_ rfl rfl rfl (U_store1 rfl rfl rfl rfl) rfl rfl ?_
      refine Dr.nil rfl ?_
      refine thenQ_n ?_
      refine W_seq rfl ?_
      refine W_reg rfl ?_
      refine Rv rfl rfl rfl (U_load1 rfl rfl rfl) rfl rfl ?_
      refine Rv rfl rfl rfl (U_load1 rfl rfl rfl) rfl rfl ?_
      refine Rv rfl rfl rfl (U_lenOf rfl len_ros) rfl rfl ?_
      refine Rv rfl rfl rfl (U_load1 rfl rfl rfl) rfl rfl ?_
      refine Rv rfl rfl rfl (U_lenOf rfl len_ros) rfl rfl ?_
      refine Rv rfl rfl rfl (U_sliceR3 rfl rfl rfl (by omega)) rfl rfl ?_
      refine Rv rfl rfl rfl (U_move rfl) rfl rfl ?_
      refine Rv rfl rfl rfl (U_buildSliceF (by rfl) (by decide) rfl rfl rfl) rfl rfl ?_
      refine Ra rfl rfl rfl (OpU.frz (b := 4) (U_appR (m := 0) (cs' := (((ordS n (briQ n ks) k).1) ++ [a0]).map n64) (n' := (((ordS n (briQ n ks) k).1) ++ [a0]).length) rfl rfl (map_len1 _) rfl (by omega) (by omega) (appM _ _) (len1 _ _)) rfl (by first | (simp; done) | (simp; omega) | omega) (mapD (fun _ => rfl) _) (Nat.le_refl _) (Nat.lt_succ_self _)) rfl rfl rfl ?_
      refine Rn rfl rfl rfl (U_store1 rfl rfl rfl rfl) rfl ?_
      refine Re rfl ?_
      refine thenQ_n ?_
      refine W_exit rfl ?_
      refine blkQ_y rfl ?_
      refine ⟨rfl, ?_⟩
      exact hN_ _ _ ⟨(rD rfl (by rw [ordS_S hnl]; rfl) rfl), (rD rfl (by rw [ordS_S hnl]; rfl) rfl), trivial⟩
    · refine W_exit rfl ?_
      refine blkQ_x rfl ?_
      refine blkQ_n ?_
      refine thenQ_n ?_
      refine W_reg rfl ?_
      refine Rv rfl rfl rfl (U_add rfl rfl (w64e (m := ((k + 1 : Nat) : Int)) (by omega) (by omega) (by omega))) rfl rfl ?_
      refine Rv rfl rfl rfl (U_move rfl) rfl rfl ?_
      refine Re rfl ?_
      refine thenQ_n ?_
      exact againTo (T' := [(4, .rop (skC n ks c (seQ ks) (faQ n ks) (briQ n ks)) 0), (6, .ptr 0 0), (7, .ptr 1 0), (18, i64 ((n : Nat) : Int)), (19, i64 (((k + 1) : Nat) : Int))]) (H' := [(0, some (.cells [.ros (((ordS n (briQ n ks) (k + 1)).1).map n64) (((ordS n (briQ n ks) (k + 1)).1).length) none] 25)), (1, some (.cells [i64 (((ordS n (briQ n ks) (k + 1)).2 : Nat) : Int)] 3))]) (n := 2) (n - (k + 1)) ⟨k + 1, (by omega), rfl, rfl⟩ (by omega) id ⟨eD rfl rfl, e_ rfl rfl, e_ rfl rfl, eD rfl rfl, eD rfl rfl, trivial⟩ ⟨rD rfl rfl rfl, rD rfl rfl rfl, trivial⟩ rfl rfl rfl rfl (fun _ _ => rfl)
  · obtain rfl : n = k := by omega
    refine W_exit rfl ?_
    refine thenQ_x ?_
    refine thenQ_x ?_
    refine blkQ_x rfl ?_
    refine thenQ_n ?_
    refine W_seq rfl ?_
    refine W_reg rfl ?_
    refine Rv rfl rfl rfl (U_load1 rfl rfl rfl) rfl rfl ?_
    refine Rv rfl rfl rfl (U_assign rfl) rfl rfl ?_
    refine Rv rfl rfl rfl (U_assign rfl) rfl rfl ?_
    refine Re rfl ?_
    refine thenQ_n ?_
    refine W_ret rfl ?_
    exact retL (rlT rfl (rlT rfl rl0)) (by first | rfl | (simp only [packA]; rfl; first | done | rfl)) rfl
end Go.Proofs.Ythmibifghihdaaa
end

section
namespace Go.Proofs.Ythmibifghihdaaa
set_option maxRecDepth 20000
open Go.AE
theorem in2 {n : Nat} {a b : Nat} (ha : a < n) (hb : b < n) : inL 0 (((n : Nat) : Int) - 1) [(a : Int), (b : Int)] = true := by simp [inL]; omega
theorem in1 {n : Nat} {a : Nat} (ha : a < n) : inL 0 (((n : Nat) : Int) - 1) [(a : Int)] = true := by simp [inL]; omega
def kndQ (fa : R10) (a b : Nat) : Int := if bt (fa.g a) b = true then 2 else if bt (fa.g b) a = true then 0 else 1
def sloK (fa : R10) (s : Nat) : Nat → Nat
  | 0 => 0
  | k + 1 => sloK fa s k + ((fa.g k >>> s) &&& 1)
def shiK (fa : R10) (s : Nat) : Nat → Nat
  | 0 => 0
  | k + 1 => shiK fa s k + ((fa.g s >>> k) &&& 1)
theorem slo_le {fa : R10} {s : Nat} : ∀ k, sloK fa s k ≤ k
  | 0 => Nat.le_refl _
  | k + 1 => by have := slo_le (fa := fa) (s := s) k; have := bit_lt (a := fa.g k) (k := s); simp only [sloK]; omega
theorem shi_le {fa : R10} {s : Nat} : ∀ k, shiK fa s k ≤ k
  | 0 => Nat.le_refl _
  | k + 1 => by have := shi_le (fa := fa) (s := s) k; have := bit_lt (a := fa.g s) (k := k); simp only [shiK]; omega
theorem cirG_len {n : Nat} {ks : List (Nat × Nat)} (hv : VB n ks) {g : Nat} (hg : Cyc n ks g) : (cirG n ks g).length ≤ n := by
  have h := cir_is hv ((faQ_tb hv).1 (by rw [← bt_eq]; exact hg.2.1)) (n + 1) g ⟨hg.1, .inl rfl⟩ (by simp [measW])
  have := hv.1
  have h2 := h.2.1
  simp only [measW, if_true] at h2
  simp only [cirG, List.length_cons]; omega
theorem countP_a (n : Nat) (ks : List (Nat × Nat)) (c : Option Nat) (hv : VB n ks) (h40 : ks.length ≤ 40) (ha : Acy n ks) : Pure Try.prog 28 [bknA n ks c] (.tup [i64 ((up n (nxB (briQ n ks)) (full n) : Nat) : Int), i64 0]) := by
  have hv' := hv
  obtain ⟨hn1, hn, hkl, hk⟩ := hv'
  have hk2 := vb_lt hv
  refine pure_of_body Try.func28 (c := body Try.f28) rfl (by simp [Try.ntmps28]) fun w0 Φ0 => ?_
  refine W_seq rfl ?_
  refine W_reg rfl ?_
  refine Rv rfl rfl rfl (U_boxF rfl rfl rfl) rfl rfl ?_
  refine Rv rfl rfl rfl (U_assign rfl) rfl rfl ?_
  refine Rv rfl rfl rfl (U_assign rfl) rfl rfl ?_
  refine Re rfl ?_
  refine thenQ_n ?_
  refine W_seq rfl ?_
  refine W_reg rfl ?_
  refine Rv rfl rfl rfl (U_load2 rfl rfl rfl rfl) rfl rfl ?_
  refine Rv rfl rfl rfl (U_call rfl rfl (openG_p n ks c hv h40) rfl) rfl rfl ?_
  refine Rv rfl rfl rfl (U_move rfl) rfl rfl ?_
  refine Rv rfl rfl rfl (U_extract rfl rfl) rfl rfl ?_
  refine Rv rfl rfl rfl (U_extract rfl rfl) rfl rfl ?_
  refine Rv rfl rfl rfl (U_assign rfl) rfl rfl ?_
  refine Rv rfl rfl rfl (U_assign rfl) rfl rfl ?_
  refine Re rfl ?_
  refine thenQ_n ?_
  refine W_seq rfl ?_
  refine W_block rfl ?_
  refine W_seq rfl ?_
  refine W_reg rfl ?_
  refine Rv rfl rfl rfl (U_move rfl) rfl rfl ?_
  refine Rv rfl rfl rfl (U_neq rfl rfl) rfl rfl ?_
  refine Rv rfl rfl rfl (U_assign rfl) rfl rfl ?_
  refine Re rfl ?_
  refine thenQ_n ?_
  refine WcondP rfl rfl (fun h => absurd h (by decide)) (fun _ => ?_)
  refine W_seq rfl ?_
  refine W_reg rfl ?_
  refine Rv rfl rfl rfl (U_move rfl) rfl rfl ?_
  refine Rv rfl rfl rfl (U_call rfl rfl (circleA_p n ks c hv ha) rfl) rfl rfl ?_
  refine Rv rfl rfl rfl (U_neNil rfl rfl) rfl rfl ?_
  refine Rv rfl rfl rfl (U_assign rfl) rfl rfl ?_
  refine Re rfl ?_
  refine thenQ_n ?_
  refine Wcond rfl rfl (fun h => nomatch h) (fun _ => ?_)
  refine W_skip rfl ?_
  refine blkQ_n ?_
  refine thenQ_n ?_
  refine W_seq rfl ?_
  refine W_reg rfl ?_
  refine Rv rfl rfl rfl (U_move rfl) rfl rfl ?_
  refine Rv rfl rfl rfl (U_call rfl rfl (count_p n ks c (seQ ks) (faQ n ks) (briQ n ks) (by first | assumption | omega) (by first | assumption | omega)) rfl) rfl rfl ?_
  refine Rv rfl rfl rfl (U_assign rfl) rfl rfl ?_
  refine Rv rfl rfl rfl (U_assign rfl) rfl rfl ?_
  refine Re rfl ?_
  refine thenQ_n ?_
  refine W_ret rfl ?_
  exact retL (rlT rfl (rlT rfl rl0)) rfl rfl
theorem circleP_a (n : Nat) (ks : List (Nat × Nat)) (c : Option Nat) (hv : VB n ks) (h40 : ks.length ≤ 40) (ha : Acy n ks) : Pure Try.prog 30 [bknA n ks c] (.tup [natsA [] none, i64 5]) := by
  have hv' := hv
  obtain ⟨hn1, hn, hkl, hk⟩ := hv'
  have hk2 := vb_lt hv
  refine pure_of_body Try.func30 (c := body Try.f30) rfl (by simp [Try.ntmps30]) fun w0 Φ0 => ?_
  refine W_seq rfl ?_
  refine W_reg rfl ?_
  refine Rv rfl rfl rfl (U_boxF rfl rfl rfl) rfl rfl ?_
  refine Rv rfl rfl rfl (U_assign rfl) rfl rfl ?_
  refine Rv rfl rfl rfl (U_assign rfl) rfl rfl ?_
  refine Re rfl ?_
  refine thenQ_n ?_
  refine W_seq rfl ?_
  refine W_reg rfl ?_
  refine Rv rfl rfl rfl (U_load2 rfl rfl rfl rfl) rfl rfl ?_
  refine Rv rfl rfl rfl (U_call rfl rfl (openG_p n ks c hv h40) rfl) rfl rfl ?_
  refine Rv rfl rfl rfl (U_move rfl) rfl rfl ?_
  refine Rv rfl rfl rfl (U_extract rfl rfl) rfl rfl ?_
  refine Rv rfl rfl rfl (U_extract rfl rfl) rfl rfl ?_
  refine Rv rfl rfl rfl (U_assign rfl) rfl rfl ?_
  refine Rv rfl rfl rfl (U_assign rfl) rfl rfl ?_
  refine Re rfl ?_
  refine thenQ_n ?_
  refine W_seq rfl ?_
  refine W_seq rfl ?_
  refine W_reg rfl ?_
  refine Rv rfl rfl rfl (U_move rfl) rfl rfl ?_
  refine Rv rfl rfl rfl (U_neq rfl rfl) rfl rfl ?_
  refine Re rfl ?_
  refine thenQ_n ?_
  refine WcondP rfl rfl (fun h => absurd h (by decide)) (fun _ => ?_)
  refine W_skip rfl ?_
  refine thenQ_n ?_
  refine W_seq rfl ?_
  refine W_reg rfl ?_
  refine Rv rfl rfl rfl (U_move rfl) rfl rfl ?_
  refine Rv rfl rfl rfl (U_call rfl rfl (circleA_p n ks c hv ha) rfl) rfl rfl ?_
  refine Rv rfl rfl rfl (U_assign rfl) rfl rfl ?_
  refine Re rfl ?_
  refine thenQ_n ?_
  refine W_seq rfl ?_
  refine W_seq rfl ?_
  refine W_reg rfl ?_
  refine Rv rfl rfl rfl (U_move rfl) rfl rfl ?_
  refine Rv rfl rfl rfl (U_eqNil rfl rfl) rfl rfl ?_
  refine Re rfl ?_
  refine thenQ_n ?_
  refine Wcond rfl rfl (fun _ => ?_) (fun h => nomatch h)
  refine W_seq rfl ?_
  refine W_reg rfl ?_
  refine Rv rfl rfl rfl (U_assign rfl) rfl rfl ?_
  refine Rv rfl rfl rfl (U_assign rfl) rfl rfl ?_
  refine Re rfl ?_
  refine thenQ_n ?_
  refine WweakT (j := 2) rfl (le_nils (cs := [])) ?_
  refine W_ret rfl ?_
  refine thenQ_r ?_
  exact retL (rlT rfl (rlT rfl rl0)) (by first | rfl | (simp only [packA]; rfl; first | done | rfl)) rfl
theorem circleP_y (n : Nat) (ks : List (Nat × Nat)) (c : Option Nat) (hv : VB n ks) (h40 : ks.length ≤ 40) (g : Nat) (hg : Cyc n ks g) : Pure Try.prog 30 [bknA n ks c] (.tup [natsA (cirG n ks g) none, i64 0]) := by
  have hv' := hv
  obtain ⟨hn1, hn, hkl, hk⟩ := hv'
  have hk2 := vb_lt hv
  have hcl := cirG_len hv hg
  refine pure_of_body Try.func30 (c := body Try.f30) rfl (by simp [Try.ntmps30]) fun w0 Φ0 => ?_
  refine W_seq rfl ?_
  refine W_reg rfl ?_
  refine Rv rfl rfl rfl (U_boxF rfl rfl rfl) rfl rfl ?_
  refine Rv rfl rfl rfl (U_assign rfl) rfl rfl ?_
  refine Rv rfl rfl rfl (U_assign rfl) rfl rfl ?_
  refine Re rfl ?_
  refine thenQ_n ?_
  refine W_seq rfl ?_
  refine W_reg rfl ?_
  refine Rv rfl rfl rfl (U_load2 rfl rfl rfl rfl) rfl rfl ?_
  refine Rv rfl rfl rfl (U_call rfl rfl (openG_p n ks c hv h40) rfl) rfl rfl ?_
  refine Rv rfl rfl rfl (U_move rfl) rfl rfl ?_
  refine Rv rfl rfl rfl (U_extract rfl rfl) rfl rfl ?_
  refine Rv rfl rfl rfl (U_extract rfl rfl) rfl rfl ?_
  refine Rv rfl rfl rfl (U_assign rfl) rfl rfl ?_
  refine Rv rfl rfl rfl (U_assign rfl) rfl rfl ?_
  refine Re rfl ?_
  refine thenQ_n ?_
  refine W_seq rfl ?_
  refine W_seq rfl ?_
  refine W_reg rfl ?_
  refine Rv rfl rfl rfl (U_move rfl) rfl rfl ?_
  refine Rv rfl rfl rfl (U_neq rfl rfl) rfl rfl ?_
  refine Re rfl ?_
  refine thenQ_n ?_
  refine WcondP rfl rfl (fun h => absurd h (by decide)) (fun _ => ?_)
  refine W_skip rfl ?_
  refine thenQ_n ?_
  refine W_seq rfl ?_
  refine W_reg rfl ?_
  refine Rv rfl rfl rfl (U_move rfl) rfl rfl ?_
  refine Rv rfl rfl rfl (U_call rfl rfl (circleY_p n ks c hv g hg) rfl) rfl rfl ?_
  refine Rv rfl rfl rfl (U_assign rfl) rfl rfl ?_
  refine Re rfl ?_
  refine thenQ_n ?_
  refine W_seq rfl ?_
  refine W_seq rfl ?_
  refine W_reg rfl ?_
  refine Rv rfl rfl rfl (U_move rfl) rfl rfl ?_
  refine Rv rfl rfl rfl (U_eqRos (by simp) rfl rfl) rfl rfl ?_
  refine Re rfl ?_
  refine thenQ_n ?_
  refine Wcond rfl rfl (fun h => nomatch h) (fun _ => ?_)
  refine W_skip rfl ?_
  refine thenQ_n ?_
  refine W_seq rfl ?_
  refine W_reg rfl ?_
  refine Rv rfl rfl rfl (U_move rfl) rfl rfl ?_
  refine Rv rfl rfl rfl (U_lenOf rfl len_ros) rfl rfl ?_
  refine Ra rfl rfl rfl (U_mkL (n := (cirG n ks g).length) (cs' := (List.replicate ((cirG n ks g).length) (0 : Nat)).map n64) rfl rfl rfl (by omega) (replM rfl _)) rfl rfl rfl ?_
  refine Rv rfl rfl rfl (U_assign rfl) rfl rfl ?_
  refine Re rfl ?_
  refine thenQ_n ?_
  refine W_seq rfl ?_
  refine W_reg rfl ?_
  refine Rv rfl rfl rfl (U_move rfl) rfl rfl ?_
  refine Rv rfl rfl rfl (U_move rfl) rfl rfl ?_
  refine Ra rfl rfl rfl (U_copy (news := (cirG n ks g).map n64) (cs' := (cirG n ks g).map n64) rfl rfl rfl (by simp) (srcR (map_len1 _)) (allM (fun _ => rfl) _) (copyM (by simp))) rfl rfl rfl ?_
  refine Re rfl ?_
  refine thenQ_n ?_
  refine W_seq rfl ?_
  refine W_reg rfl ?_
  refine Rv rfl rfl rfl (U_move rfl) rfl rfl ?_
  refine Rv rfl rfl rfl (U_assign rfl) rfl rfl ?_
  refine Rv rfl rfl rfl (U_assign rfl) rfl rfl ?_
  refine Re rfl ?_
  refine thenQ_n ?_
  refine WfrN 0 rfl (mapD (fun _ => rfl) _) (T' := [(2, .ros ((cirG n ks g).map n64) ((cirG n ks g).length) (some ((cirG n ks g).length))), (3, i64 0)]) (H' := []) ⟨⟨_, rfl, fr_sl (Nat.le_refl _)⟩, ⟨_, rfl, rfl⟩, trivial⟩ trivial ?_
  refine WweakT (j := 2) rfl le_cap ?_
  refine W_ret rfl ?_
  exact retL (rlT rfl (rlT rfl rl0)) rfl rfl
theorem kind_e (b : Bk) (c : Option Nat) (hl : b.ls.length ≤ 1000000) (x y : Int) (e : Int) (he : e ≠ 0) (hr : Pure Try.prog 63 [bookA b c, intsA [x, y] (some 2)] (.tup [.nilp, i64 e])) : Pure Try.prog 33 [bookA b c, i64 x, i64 y] (.tup [i64 0, i64 e]) := by
  refine pure_of_body Try.func33 (c := body Try.f33) rfl (by simp [Try.ntmps33]) fun w0 Φ0 => ?_
  refine W_seq rfl ?_
  refine W_reg rfl ?_
  refine Rv rfl rfl rfl (U_boxF rfl rfl rfl) rfl rfl ?_
  refine Rv rfl rfl rfl (U_assign rfl) rfl rfl ?_
  refine Rv rfl rfl rfl (U_assign rfl) rfl rfl ?_
  refine Re rfl ?_
  refine thenQ_n ?_
  refine W_seq rfl ?_
  refine W_reg rfl ?_
  refine Rv rfl rfl rfl (U_load2 rfl rfl rfl rfl) rfl rfl ?_
  refine Rv rfl rfl rfl (U_move rfl) rfl rfl ?_
  refine Rv rfl rfl rfl (U_move rfl) rfl rfl ?_
  refine Rv rfl rfl rfl (U_buildSliceF (by rfl) (by decide) rfl rfl rfl) rfl rfl ?_
  refine Rv rfl rfl rfl (U_call rfl rfl (hr) rfl) rfl rfl ?_
  refine Rv rfl rfl rfl (U_move rfl) rfl rfl ?_
  refine Rv rfl rfl rfl (U_extract rfl rfl) rfl rfl ?_
  refine Rv rfl rfl rfl (U_extract rfl rfl) rfl rfl ?_
  refine Rv rfl rfl rfl (U_assign rfl) rfl rfl ?_
  refine Rv rfl rfl rfl (U_assign rfl) rfl rfl ?_
  refine Re rfl ?_
  refine thenQ_n ?_
  refine W_seq rfl ?_
  refine W_block rfl ?_
  refine W_seq rfl ?_
  refine W_reg rfl ?_
  refine Rv rfl rfl rfl (U_move rfl) rfl rfl ?_
  refine Rv rfl rfl rfl (U_neq rfl rfl) rfl rfl ?_
  refine Rv rfl rfl rfl (U_assign rfl) rfl rfl ?_
  refine Re rfl ?_
  refine thenQ_n ?_
  refine WcondP rfl rfl (fun hc0 => ?_) (fun hc0 => absurd (he) hc0)
  refine W_seq rfl ?_
  refine W_reg rfl ?_
  refine Rv rfl rfl rfl (U_move rfl) rfl rfl ?_
  refine Rv rfl rfl rfl (U_assign rfl) rfl rfl ?_
  refine Rv rfl rfl rfl (U_assign rfl) rfl rfl ?_
  refine Re rfl ?_
  refine thenQ_n ?_
  refine W_ret rfl ?_
  refine blkQ_r ?_
  refine thenQ_r ?_
  exact retL (rlT rfl (rlT rfl rl0)) rfl rfl
theorem kind_g (n : Nat) (ks : List (Nat × Nat)) (c : Option Nat) (hv : VB n ks) (h40 : ks.length ≤ 40) (ha : Acy n ks) (a b : Nat) (ha2 : a < n) (hb2 : b < n) (hab : a ≠ b) : Pure Try.prog 33 [bknA n ks c, i64 (a : Nat), i64 (b : Nat)] (.tup [i64 (kndQ (faQ n ks) a b), i64 0]) := by
  have hv' := hv
  obtain ⟨hn1, hn, hkl, hk⟩ := hv'
  have hk2 := vb_lt hv
  have hin := in2 ha2 hb2
  have hne : ¬ (a : Int) = b := by omega
  refine pure_of_body Try.func33 (c := body Try.f33) rfl (by simp [Try.ntmps33]) fun w0 Φ0 => ?_
  refine W_seq rfl ?_
  refine W_reg rfl ?_
  refine Rv rfl rfl rfl (U_boxF rfl rfl rfl) rfl rfl ?_
  refine Rv rfl rfl rfl (U_assign rfl) rfl rfl ?_
  refine Rv rfl rfl rfl (U_assign rfl) rfl rfl ?_
  refine Re rfl ?_
  refine thenQ_n ?_
  refine W_seq rfl ?_
  refine W_reg rfl ?_
  refine Rv rfl rfl rfl (U_load2 rfl rfl rfl rfl) rfl rfl ?_
  refine Rv rfl rfl rfl (U_move rfl) rfl rfl ?_
  refine Rv rfl rfl rfl (U_move rfl) rfl rfl ?_
  refine Rv rfl rfl rfl (U_buildSliceF (by rfl) (by decide) rfl rfl rfl) rfl rfl ?_
  refine Rv rfl rfl rfl (U_call rfl rfl (ruledDG_p n ks c hv h40 ((a : Nat) : Int) ((b : Nat) : Int) (some 2) (by assumption) (by assumption) ha) rfl) rfl rfl ?_
  refine Rv rfl rfl rfl (U_move rfl) rfl rfl ?_
  refine Rv rfl rfl rfl (U_extract rfl rfl) rfl rfl ?_
  refine Rv rfl rfl rfl (U_extract rfl rfl) rfl rfl ?_
  refine Rv rfl rfl rfl (U_assign rfl) rfl rfl ?_
  refine Rv rfl rfl rfl (U_assign rfl) rfl rfl ?_
  refine Re rfl ?_
  refine thenQ_n ?_
  refine W_seq rfl ?_
  refine W_block rfl ?_
  refine W_seq rfl ?_
  refine W_reg rfl ?_
  refine Rv rfl rfl rfl (U_move rfl) rfl rfl ?_
  refine Rv rfl rfl rfl (U_neq rfl rfl) rfl rfl ?_
  refine Rv rfl rfl rfl (U_assign rfl) rfl rfl ?_
  refine Re rfl ?_
  refine thenQ_n ?_
  refine WcondP rfl rfl (fun h => absurd h (by decide)) (fun _ => ?_)
  refine W_seq rfl ?_
  refine W_reg rfl ?_
  refine Rv rfl rfl rfl (U_move rfl) rfl rfl ?_
  refine Rv rfl rfl rfl (U_move rfl) rfl rfl ?_
  refine Rv rfl rfl rfl (U_nilCheckR rfl) rfl rfl ?_
  refine Rv rfl rfl rfl (U_fieldAddrR rfl) rfl rfl ?_
  have hx1 : a < 10 := by omega
  refine Rv rfl rfl rfl (U_indexAR (j := a) rfl rfl rfl hx1) rfl rfl ?_
  refine Rv rfl rfl rfl (U_load1 rfl rfl (skG12 hx1)) rfl rfl ?_
  refine Rv rfl rfl rfl (U_move rfl) rfl rfl ?_
  refine Rv rfl rfl rfl (U_shr rfl rfl (by omega) (shrN (n := (faQ n ks).g a) (i := b) (R10.lt63 _ _))) rfl rfl ?_
  refine Rv rfl rfl rfl (U_and rfl rfl (andN (a := ((faQ n ks).g a) >>> b) (b := 1) (R10.sh63 _ _ _) (by omega))) rfl rfl ?_
  refine Rv rfl rfl rfl (U_eql rfl rfl) rfl rfl ?_
  refine Rv rfl rfl rfl (U_assign rfl) rfl rfl ?_
  refine Re rfl ?_
  refine thenQ_n ?_
  refine WcondP rfl rfl (fun hc1 => ?_) (fun hc1 => ?_)
  · refine W_seq rfl ?_
    refine W_reg rfl ?_
    refine Rv rfl rfl rfl (U_assign rfl) rfl rfl ?_
    refine Rv rfl rfl rfl (U_assign rfl) rfl rfl ?_
    refine Re rfl ?_
    refine thenQ_n ?_
    refine W_ret rfl ?_
    refine blkQ_r ?_
    refine thenQ_r ?_
    exact retL (rlT rfl (rlT rfl rl0)) (by first | rfl | (simp only [packA]; rw [kndQ, if_pos (bt_T hc1)]; first | done | rfl) | (simp only [packA]; rw [kndQ, if_neg (by rw [bt_F hc1]; simp), if_pos (bt_T hc2)]; first | done | rfl) | (simp only [packA]; rw [kndQ, if_neg (by rw [bt_F hc1]; simp), if_neg (by rw [bt_F hc2]; simp)]; first | done | rfl)) rfl
  · refine W_seq rfl ?_
    refine W_reg rfl ?_
    refine Rv rfl rfl rfl (U_move rfl) rfl rfl ?_
    refine Rv rfl rfl rfl (U_move rfl) rfl rfl ?_
    refine Rv rfl rfl rfl (U_nilCheckR rfl) rfl rfl ?_
    refine Rv rfl rfl rfl (U_fieldAddrR rfl) rfl rfl ?_
    have hx2 : b < 10 := by omega
    refine Rv rfl rfl rfl (U_indexAR (j := b) rfl rfl rfl hx2) rfl rfl ?_
    refine Rv rfl rfl rfl (U_load1 rfl rfl (skG12 hx2)) rfl rfl ?_
    refine Rv rfl rfl rfl (U_move rfl) rfl rfl ?_
    refine Rv rfl rfl rfl (U_shr rfl rfl (by omega) (shrN (n := (faQ n ks).g b) (i := a) (R10.lt63 _ _))) rfl rfl ?_
    refine Rv rfl rfl rfl (U_and rfl rfl (andN (a := ((faQ n ks).g b) >>> a) (b := 1) (R10.sh63 _ _ _) (by omega))) rfl rfl ?_
    refine Rv rfl rfl rfl (U_eql rfl rfl) rfl rfl ?_
    refine Rv rfl rfl rfl (U_assign rfl) rfl rfl ?_
    refine Re rfl ?_
    refine thenQ_n ?_
    refine WcondP rfl rfl (fun hc2 => ?_) (fun hc2 => ?_)
    · refine W_seq rfl ?_
      refine W_reg rfl ?_
      refine Rv rfl rfl rfl (U_assign rfl) rfl rfl ?_
      refine Rv rfl rfl rfl (U_assign rfl) rfl rfl ?_
      refine Re rfl ?_
      refine thenQ_n ?_
      refine W_ret rfl ?_
      refine blkQ_r ?_
      refine thenQ_r ?_
      exact retL (rlT rfl (rlT rfl rl0)) (by first | rfl | (simp only [packA]; rw [kndQ, if_pos (bt_T hc1)]; first | done | rfl) | (simp only [packA]; rw [kndQ, if_neg (by rw [bt_F hc1]; simp), if_pos (bt_T hc2)]; first | done | rfl) | (simp only [packA]; rw [kndQ, if_neg (by rw [bt_F hc1]; simp), if_neg (by rw [bt_F hc2]; simp)]; first | done | rfl)) rfl
    · refine W_skip rfl ?_
      refine blkQ_n ?_
      refine thenQ_n ?_
      refine W_seq rfl ?_
      refine W_reg rfl ?_
      refine Rv rfl rfl rfl (U_assign rfl) rfl rfl ?_
      refine Rv rfl rfl rfl (U_assign rfl) rfl rfl ?_
      refine Re rfl ?_
      refine thenQ_n ?_
      refine W_ret rfl ?_
      exact retL (rlT rfl (rlT rfl rl0)) (by first | rfl | (simp only [packA]; rw [kndQ, if_pos (bt_T hc1)]; first | done | rfl) | (simp only [packA]; rw [kndQ, if_neg (by rw [bt_F hc1]; simp), if_pos (bt_T hc2)]; first | done | rfl) | (simp only [packA]; rw [kndQ, if_neg (by rw [bt_F hc1]; simp), if_neg (by rw [bt_F hc2]; simp)]; first | done | rfl)) rfl
theorem span_g (n : Nat) (ks : List (Nat × Nat)) (c : Option Nat) (hv : VB n ks) (h40 : ks.length ≤ 40) (ha : Acy n ks) (s : Nat) (hs : s < n) : Pure Try.prog 37 [bknA n ks c, i64 (s : Nat)] (.tup [.agg [i64 ((sloK (faQ n ks) s n : Nat) : Int), i64 (((n : Nat) : Int) - 1 - ((shiK (faQ n ks) s n : Nat) : Int))], i64 0]) := by
  have hv' := hv
  obtain ⟨hn1, hn, hkl, hk⟩ := hv'
  have hk2 := vb_lt hv
  have hin := in1 hs
  have h0 : shiK (faQ n ks) s 0 = 0 := rfl
  refine pure_of_body Try.func37 (c := body Try.f37) rfl (by simp [Try.ntmps37]) fun w0 Φ0 => ?_
  refine W_seq rfl ?_
  refine W_reg rfl ?_
  refine Rv rfl rfl rfl (U_boxF rfl rfl rfl) rfl rfl ?_
  refine Ra rfl rfl rfl (U_alloc) rfl rfl rfl ?_
  refine Rv rfl rfl rfl (U_assign rfl) rfl rfl ?_
  refine Re rfl ?_
  refine thenQ_n ?_
  refine W_seq rfl ?_
  refine W_reg rfl ?_
  refine Rv rfl rfl rfl (U_load2 rfl rfl rfl rfl) rfl rfl ?_
  refine Rv rfl rfl rfl (U_move rfl) rfl rfl ?_
  refine Rv rfl rfl rfl (U_buildSliceF (by rfl) (by decide) rfl rfl rfl) rfl rfl ?_
  refine Rv rfl rfl rfl (U_call rfl rfl (ruledC1G_p n ks c hv h40 ((s : Nat) : Int) (by assumption) ha) rfl) rfl rfl ?_
  refine Rv rfl rfl rfl (U_move rfl) rfl rfl ?_
  refine Rv rfl rfl rfl (U_extract rfl rfl) rfl rfl ?_
  refine Rv rfl rfl rfl (U_extract rfl rfl) rfl rfl ?_
  refine Rv rfl rfl rfl (U_assign rfl) rfl rfl ?_
  refine Rv rfl rfl rfl (U_assign rfl) rfl rfl ?_
  refine Re rfl ?_
  refine thenQ_n ?_
  refine W_seq rfl ?_
  refine W_seq rfl ?_
  refine W_reg rfl ?_
  refine Rv rfl rfl rfl (U_move rfl) rfl rfl ?_
  refine Rv rfl rfl rfl (U_neq rfl rfl) rfl rfl ?_
  refine Re rfl ?_
  refine thenQ_n ?_
  refine WcondP rfl rfl (fun h => absurd h (by decide)) (fun _ => ?_)
  refine W_skip rfl ?_
  refine thenQ_n ?_
  refine W_seq rfl ?_
  refine W_reg rfl ?_
  refine Rv rfl rfl rfl (U_fieldAddrR rfl) rfl rfl ?_
  refine Rv rfl rfl rfl (U_load1 rfl rfl rfl) rfl rfl ?_
  refine Rv rfl rfl rfl (U_sub rfl rfl (w64e (m := (((n : Nat) : Int) - 1 - ((shiK (faQ n ks) s 0 : Nat) : Int))) (by omega) (by omega) (by omega))) rfl rfl ?_
  refine Rv rfl rfl rfl (U_build rfl rfl) rfl rfl ?_
  refine Ra rfl rfl rfl (U_alloc) rfl rfl rfl ?_
  refine Rn rfl rfl rfl (U_storeAll rfl rfl rfl rfl rfl rfl) rfl ?_
  refine Re rfl ?_
  refine thenQ_n ?_
  refine W_seq rfl ?_
  refine W_seq rfl ?_
  refine W_reg rfl ?_
  refine Rv rfl rfl rfl (U_fieldAddrR rfl) rfl rfl ?_
  refine Rv rfl rfl rfl (U_load1 rfl rfl rfl) rfl rfl ?_
  refine Rv rfl rfl rfl (U_move rfl) rfl rfl ?_
  refine Re rfl ?_
  refine thenQ_n ?_
  refine W_block rfl ?_
  refine LoopTo (T' := [(1, i64 ((s : Nat) : Int)), (4, .ptr 0 0), (6, .rop (skC n ks c (seQ ks) (faQ n ks) (briQ n ks)) 0), (8, .ptr 1 0), (26, i64 ((n : Nat) : Int)), (27, i64 ((0 : Nat) : Int))]) (H' := [(0, some (.cells [i64 0, i64 0] 45)), (1, some (.cells [i64 ((sloK (faQ n ks) s 0 : Nat) : Int), i64 (((n : Nat) : Int) - 1 - ((shiK (faQ n ks) s 0 : Nat) : Int))] 45))]) (n := 2) rfl (fun mz_ qz_ => ∃ (k : Nat), k ≤ n ∧ mz_ = n - k ∧ qz_ = ⟨[(1, i64 ((s : Nat) : Int)), (4, .ptr 0 0), (6, .rop (skC n ks c (seQ ks) (faQ n ks) (briQ n ks)) 0), (8, .ptr 1 0), (26, i64 ((n : Nat) : Int)), (27, i64 ((k : Nat) : Int))], [(0, some (.cells [i64 0, i64 0] 45)), (1, some (.cells [i64 ((sloK (faQ n ks) s k : Nat) : Int), i64 (((n : Nat) : Int) - 1 - ((shiK (faQ n ks) s k : Nat) : Int))] 45))], 2, []⟩) ⟨0, (by omega), rfl, rfl⟩ id ⟨eD rfl rfl, e_ rfl rfl, eD rfl rfl, e_ rfl rfl, eD rfl rfl, eD rfl rfl, trivial⟩ ⟨rD rfl rfl rfl, rD rfl rfl rfl, trivial⟩ rfl rfl rfl rfl (fun _ _ => rfl) ?_
  rintro _ _ ⟨k, hi0_0, rfl, rfl⟩
  have hq1 : sloK (faQ n ks) s (k + 1) = sloK (faQ n ks) s k + (((faQ n ks).g k >>> s) &&& 1) := rfl
  have hq2 : shiK (faQ n ks) s (k + 1) = shiK (faQ n ks) s k + (((faQ n ks).g s >>> k) &&& 1) := rfl
  have hl1 := slo_le (fa := (faQ n ks)) (s := s) k
  have hl2 := shi_le (fa := (faQ n ks)) (s := s) k
  have hb1 := bit_lt (a := (faQ n ks).g k) (k := s)
  have hb2 := bit_lt (a := (faQ n ks).g s) (k := k)
  refine W_seq rfl ?_
  refine W_reg rfl ?_
  refine Rv rfl rfl rfl (U_lss rfl rfl) rfl rfl ?_
  refine Re rfl ?_
  refine thenQ_n ?_
  refine W_seq rfl ?_
  refine WcondP rfl rfl (fun hc1 => ?_) (fun hc1 => ?_)
  · refine W_skip rfl ?_
    refine thenQ_n ?_
    refine W_seq rfl ?_
    refine W_block rfl ?_
    refine W_seq rfl ?_
    refine W_reg rfl ?_
    refine Rv rfl rfl rfl (U_move rfl) rfl rfl ?_
    refine Rv rfl rfl rfl (U_assign rfl) rfl rfl ?_
    refine Re rfl ?_
    refine thenQ_n ?_
    refine W_seq rfl ?_
    refine Wdraw rfl (by kernel_rfl) (by kernel_rfl) ?_
    refine Dv rfl rfl rfl (U_fieldAddr rfl) rfl rfl ?_
    refine Dv rfl rfl rfl (U_load1 rfl rfl rfl) rfl rfl ?_
    refine Dv rfl rfl rfl (U_move rfl) rfl rfl ?_
    refine Dv rfl rfl rfl (U_move rfl) rfl rfl ?_
    refine Dv rfl rfl rfl (U_nilCheckR rfl) rfl rfl ?_
    refine Dv rfl rfl rfl (U_fieldAddrR rfl) rfl rfl ?_
    have hx1 : k < 10 := by omega
    refine Dv rfl rfl rfl (U_indexAR (j := k) rfl rfl rfl hx1) rfl rfl ?_
    refine Dv rfl rfl rfl (U_load1 rfl rfl (skG12 hx1)) rfl rfl ?_
    refine Dv rfl rfl rfl (U_move rfl) rfl rfl ?_
    refine Dv rfl rfl rfl (U_shr rfl rfl (by omega) (shrN (n := (faQ n ks).g k) (i := s) (R10.lt63 _ _))) rfl rfl ?_
    refine Dv rfl rfl rfl (U_and rfl rfl (andN (a := ((faQ n ks).g k) >>> s) (b := 1) (R10.sh63 _ _ _) (by omega))) rfl rfl ?_
    refine Dv rfl rfl rfl (U_add rfl rfl (w64e (m := ((sloK (faQ n ks) s (k + 1) : Nat) : Int)) (by omega) (by omega) (by omega))) rfl rfl ?_
    refine Dv rfl rfl rfl (U_fieldAddr rfl) rfl rfl ?_
    refine Dn_ rfl rfl rfl (U_store rfl rfl rfl rfl rfl (Nat.le_of_ble_eq_true rfl) rfl rfl) rfl rfl ?_
    refine Dr.nil rfl ?_
    refine thenQ_n ?_
    refine Wdraw rfl (by kernel_rfl) (by kernel_rfl) ?_
    refine Dv rfl rfl rfl (U_fieldAddr rfl) rfl rfl ?_
    refine Dv rfl rfl rfl (U_load1 rfl rfl rfl) rfl rfl ?_
    refine Dv rfl rfl rfl (U_move rfl) rfl rfl ?_
    refine Dv rfl rfl rfl (U_move rfl) rfl rfl ?_
    refine Dv rfl rfl rfl (U_nilCheckR rfl) rfl rfl ?_
    refine Dv rfl rfl rfl (U_fieldAddrR rfl) rfl rfl ?_
    have hx2 : s < 10 := by omega
    refine Dv rfl rfl rfl (U_indexAR (j := s) rfl rfl rfl hx2) rfl rfl ?_
    refine Dv rfl rfl rfl (U_load1 rfl rfl (skG12 hx2)) rfl rfl ?_
    refine Dv rfl rfl rfl (U_move rfl) rfl rfl ?_
    refine Dv rfl rfl rfl (U_shr rfl rfl (by omega) (shrN (n := (faQ n ks).g s) (i := k) (R10.lt63 _ _))) rfl rfl ?_
    refine Dv rfl rfl rfl (U_and rfl rfl (andN (a := ((faQ n ks).g s) >>> k) (b := 1) (R10.sh63 _ _ _) (by omega))) rfl rfl ?_
    refine Dv rfl rfl rfl (U_sub rfl rfl (w64e (m := (((n : Nat) : Int) - 1 - ((shiK (faQ n ks) s (k + 1) : Nat) : Int))) (by omega) (by omega) (by omega))) rfl rfl ?_
    refine Dv rfl rfl rfl (U_fieldAddr rfl) rfl rfl ?_
    refine Dn_ rfl rfl rfl (U_store rfl rfl rfl rfl rfl (Nat.le_of_ble_eq_true rfl) rfl rfl) rfl rfl ?_
    refine Dr.nil rfl ?_
    refine blkQ_n ?_
    refine thenQ_n ?_
    refine W_reg rfl ?_
    refine Rv rfl rfl rfl (U_add rfl rfl (w64e (m := ((k + 1 : Nat) : Int)) (by omega) (by omega) (by omega))) rfl rfl ?_
    refine Rv rfl rfl rfl (U_move rfl) rfl rfl ?_
    refine Re rfl ?_
    refine thenQ_n ?_
    exact againTo (T' := [(1, i64 ((s : Nat) : Int)), (4, .ptr 0 0), (6, .rop (skC n ks c (seQ ks) (faQ n ks) (briQ n ks)) 0), (8, .ptr 1 0), (26, i64 ((n : Nat) : Int)), (27, i64 (((k + 1) : Nat) : Int))]) (H' := [(0, some (.cells [i64 0, i64 0] 45)), (1, some (.cells [i64 ((sloK (faQ n ks) s (k + 1) : Nat) : Int), i64 (((n : Nat) : Int) - 1 - ((shiK (faQ n ks) s (k + 1) : Nat) : Int))] 45))]) (n := 2) (n - (k + 1)) ⟨k + 1, (by omega), rfl, rfl⟩ (by omega) id ⟨eD rfl rfl, e_ rfl rfl, eD rfl rfl, e_ rfl rfl, eD rfl rfl, eD rfl rfl, trivial⟩ ⟨rD rfl rfl rfl, rD rfl rfl rfl, trivial⟩ rfl rfl rfl rfl (fun _ _ => rfl)
  · obtain rfl : n = k := by omega
    refine W_exit rfl ?_
    refine thenQ_x ?_
    refine thenQ_x ?_
    refine blkQ_x rfl ?_
    refine thenQ_n ?_
    refine W_seq rfl ?_
    refine W_reg rfl ?_
    refine Rv rfl rfl rfl (U_load2 rfl rfl rfl rfl) rfl rfl ?_
    refine Rn rfl rfl rfl (U_storeAll rfl rfl rfl rfl rfl rfl) rfl ?_
    refine Rv rfl rfl rfl (U_assign rfl) rfl rfl ?_
    refine Re rfl ?_
    refine thenQ_n ?_
    refine W_ret rfl ?_
    exact retL (rlA rfl rfl rfl (rlT rfl rl0)) (by first | rfl | (simp only [packA]; rfl; first | done | rfl)) rfl
end Go.Proofs.Ythmibifghihdaaa
end

section
namespace Go.Proofs.Ythmibifghihdaaa
set_option maxRecDepth 20000
open Go.AE
def cntQ (n : Nat) (ks : List (Nat × Nat)) : Nat := up n (nxB (briQ n ks)) (full n)
theorem countK_p (n : Nat) (ks : List (Nat × Nat)) (c : Option Nat) (hv : VB n ks) : Pure Try.prog 69 [skyP n ks c (seQ ks) (faQ n ks) (briQ n ks)] (i64 ((cntQ n ks : Nat) : Int)) := count_p n ks c (seQ ks) (faQ n ks) (briQ n ks) hv.1 hv.2.1
theorem cntQ_le {n : Nat} {ks : List (Nat × Nat)} (hv : VB n ks) : cntQ n ks ≤ 3628800 := up_lt hv.2.1 full_lt
def frN (a b : Nat) : Nat := a / Nat.gcd a b
def frD (a b : Nat) : Nat := b / Nat.gcd a b
theorem gcd_step {x y : Nat} : Nat.gcd y (x % y) = Nat.gcd x y := by rw [Nat.gcd_comm x y, Nat.gcd_rec y x, Nat.gcd_comm]
theorem vb_snoc {n : Nat} {ks : List (Nat × Nat)} (hv : VB n ks) (h40 : ks.length ≤ 41) {a b : Nat} (ha : a < n) (hb : b < n) (hab : a ≠ b) : VB n (ks ++ [(a, b)]) := by
  refine ⟨hv.1, hv.2.1, by simp; omega, fun p hp => ?_⟩
  rcases List.mem_append.1 hp with h | h
  · exact hv.2.2.2 p h
  · simp at h; subst h; exact ⟨ha, hb, hab⟩
theorem chance_gA (n : Nat) (ks : List (Nat × Nat)) (c : Option Nat) (hv : VB n ks) (h40 : ks.length ≤ 40) (ha : Acy n ks) (a b : Nat) (ha2 : a < n) (hb2 : b < n) (hab : a ≠ b) (hpos : 0 < cntQ n ks) (h2 : Acy n (ks ++ [(a, b)])) : Pure Try.prog 35 [bknA n ks c, i64 (a : Nat), i64 (b : Nat)] (.tup [.agg [i64 ((frN (cntQ n (ks ++ [(a, b)])) (cntQ n ks) : Nat) : Int), i64 ((frD (cntQ n (ks ++ [(a, b)])) (cntQ n ks) : Nat) : Int)], i64 0]) := by
  have hv' := hv
  obtain ⟨hn1, hn, hkl, hk⟩ := hv'
  have hk2 := vb_lt hv
  have hin := in2 ha2 hb2
  have hne : ¬ (a : Int) = b := by omega
  have hv2 := vb_snoc hv (by omega) ha2 hb2 hab
  have hle := cntQ_le hv
  have hle2 := cntQ_le hv2
  refine pure_of_body Try.func35 (c := body Try.f35) rfl (by simp [Try.ntmps35]) fun w0 Φ0 => ?_
  refine W_seq rfl ?_
  refine W_reg rfl ?_
  refine Rv rfl rfl rfl (U_boxF rfl rfl rfl) rfl rfl ?_
  refine Ra rfl rfl rfl (U_alloc) rfl rfl rfl ?_
  refine Rv rfl rfl rfl (U_assign rfl) rfl rfl ?_
  refine Re rfl ?_
  refine thenQ_n ?_
  refine W_seq rfl ?_
  refine W_reg rfl ?_
  refine Rv rfl rfl rfl (U_load2 rfl rfl rfl rfl) rfl rfl ?_
  refine Rv rfl rfl rfl (U_move rfl) rfl rfl ?_
  refine Rv rfl rfl rfl (U_move rfl) rfl rfl ?_
  refine Rv rfl rfl rfl (U_buildSliceF (by rfl) (by decide) rfl rfl rfl) rfl rfl ?_
  refine Rv rfl rfl rfl (U_call rfl rfl (ruledDG_p n ks c hv h40 ((a : Nat) : Int) ((b : Nat) : Int) (some 2) (by assumption) (by assumption) ha) rfl) rfl rfl ?_
  refine Rv rfl rfl rfl (U_move rfl) rfl rfl ?_
  refine Rv rfl rfl rfl (U_extract rfl rfl) rfl rfl ?_
  refine Rv rfl rfl rfl (U_extract rfl rfl) rfl rfl ?_
  refine Rv rfl rfl rfl (U_assign rfl) rfl rfl ?_
  refine Rv rfl rfl rfl (U_assign rfl) rfl rfl ?_
  refine Re rfl ?_
  refine thenQ_n ?_
  refine W_seq rfl ?_
  refine W_seq rfl ?_
  refine W_reg rfl ?_
  refine Rv rfl rfl rfl (U_move rfl) rfl rfl ?_
  refine Rv rfl rfl rfl (U_neq rfl rfl) rfl rfl ?_
  refine Re rfl ?_
  refine thenQ_n ?_
  refine WcondP rfl rfl (fun h => absurd h (by decide)) (fun _ => ?_)
  refine W_skip rfl ?_
  refine thenQ_n ?_
  refine W_seq rfl ?_
  refine W_reg rfl ?_
  refine Rv rfl rfl rfl (U_move rfl) rfl rfl ?_
  refine Rv rfl rfl rfl (U_call rfl rfl (countK_p n ks c hv) rfl) rfl rfl ?_
  refine Rv rfl rfl rfl (U_assign rfl) rfl rfl ?_
  refine Rv rfl rfl rfl (U_assign rfl) rfl rfl ?_
  refine Re rfl ?_
  refine thenQ_n ?_
  refine W_seq rfl ?_
  refine W_seq rfl ?_
  refine W_reg rfl ?_
  refine Rv rfl rfl rfl (U_move rfl) rfl rfl ?_
  refine Rv rfl rfl rfl (U_move rfl) rfl rfl ?_
  refine Rv rfl rfl rfl (U_move rfl) rfl rfl ?_
  refine Rv rfl rfl rfl (U_call rfl rfl (with_p n ks c (seQ ks) (faQ n ks) (briQ n ks) (by omega) (by omega) (by assumption) a b (by first | assumption | omega) (by first | assumption | omega)) rfl) rfl rfl ?_
  refine Rv rfl rfl rfl (U_assign rfl) rfl rfl ?_
  refine Re rfl ?_
  refine thenQ_n ?_
  refine W_seq rfl ?_
  refine W_reg rfl ?_
  refine Rv rfl rfl rfl (U_move rfl) rfl rfl ?_
  refine Rv rfl rfl rfl (U_call rfl rfl (circleA_p n (ks ++ [(a, b)]) none hv2 h2) rfl) rfl rfl ?_
  refine Rv rfl rfl rfl (U_eqNil rfl rfl) rfl rfl ?_
  refine Re rfl ?_
  refine thenQ_n ?_
  refine Wcond rfl rfl (fun _ => ?_) (fun h => nomatch h)
  refine W_reg rfl ?_
  refine Rv rfl rfl rfl (U_move rfl) rfl rfl ?_
  refine Rv rfl rfl rfl (U_call rfl rfl (countK_p n (ks ++ [(a, b)]) none hv2) rfl) rfl rfl ?_
  refine Rv rfl rfl rfl (U_assign rfl) rfl rfl ?_
  refine Re rfl ?_
  refine thenQ_n ?_
  refine W_seq rfl ?_
  refine W_reg rfl ?_
  refine Rv rfl rfl rfl (U_move rfl) rfl rfl ?_
  refine Rv rfl rfl rfl (U_move rfl) rfl rfl ?_
  refine Rv rfl rfl rfl (U_assign rfl) rfl rfl ?_
  refine Rv rfl rfl rfl (U_assign rfl) rfl rfl ?_
  refine Re rfl ?_
  refine thenQ_n ?_
  refine W_seq rfl ?_
  refine W_block rfl ?_
  refine LoopTo (T' := [(6, .ptr 0 0), (10, i64 ((cntQ n (ks ++ [(a, b)]) : Nat) : Int)), (11, i64 ((cntQ n ks : Nat) : Int)), (13, i64 (((cntQ n (ks ++ [(a, b)])) : Nat) : Int)), (14, i64 (((cntQ n ks) : Nat) : Int))]) (H' := [(0, some (.cells [i64 0, i64 0] 40))]) (n := 1) rfl (fun mz_ qz_ => ∃ (x : Nat) (y : Nat), Nat.gcd x y = Nat.gcd (cntQ n (ks ++ [(a, b)])) (cntQ n ks) ∧ x ≤ 3628800 ∧ y ≤ 3628800 ∧ (0 < x ∨ 0 < y) ∧ mz_ = 0 + y ∧ qz_ = ⟨[(6, .ptr 0 0), (10, i64 ((cntQ n (ks ++ [(a, b)]) : Nat) : Int)), (11, i64 ((cntQ n ks : Nat) : Int)), (13, i64 ((x : Nat) : Int)), (14, i64 ((y : Nat) : Int))], [(0, some (.cells [i64 0, i64 0] 40))], 1, []⟩) ⟨(cntQ n (ks ++ [(a, b)])), cntQ n ks, rfl, (by omega), (by omega), (by omega), rfl, rfl⟩ id ⟨e_ rfl rfl, eD rfl rfl, eD rfl rfl, eD rfl rfl, eD rfl rfl, trivial⟩ ⟨rD rfl rfl rfl, trivial⟩ rfl rfl rfl rfl (fun _ _ => rfl) ?_
  rintro _ _ ⟨x, y, hi0_0, hi0_1, hi0_2, hi0_3, rfl, rfl⟩
  refine W_seq rfl ?_
  refine W_seq rfl ?_
  refine W_reg rfl ?_
  refine Rv rfl rfl rfl (U_move rfl) rfl rfl ?_
  refine Rv rfl rfl rfl (U_neq rfl rfl) rfl rfl ?_
  refine Re rfl ?_
  refine thenQ_n ?_
  refine WcondP rfl rfl (fun hc2 => ?_) (fun hc2 => ?_)
  · refine W_skip rfl ?_
    refine thenQ_n ?_
    refine W_block rfl ?_
    refine Wdraw rfl (by kernel_rfl) (by kernel_rfl) ?_
    refine Dv rfl rfl rfl (U_move rfl) rfl rfl ?_
    refine Dv rfl rfl rfl (U_move rfl) rfl rfl ?_
    refine Dv rfl rfl rfl (U_move rfl) rfl rfl ?_
    refine Dv rfl rfl rfl (U_rem (c := ((x % y : Nat) : Int)) rfl rfl (by omega) (tmodN _ _)) rfl rfl ?_
    refine Dv rfl rfl rfl (U_assign rfl) rfl rfl ?_
    refine Dv rfl rfl rfl (U_assign rfl) rfl rfl ?_
    refine Dr.nil rfl ?_
    refine blkQ_n ?_
    refine thenQ_n ?_
    exact againTo (T' := [(6, .ptr 0 0), (10, i64 ((cntQ n (ks ++ [(a, b)]) : Nat) : Int)), (11, i64 ((cntQ n ks : Nat) : Int)), (13, i64 ((y : Nat) : Int)), (14, i64 (((x % y) : Nat) : Int))]) (H' := [(0, some (.cells [i64 0, i64 0] 40))]) (n := 1) (0 + (x % y)) ⟨y, x % y, (by rw [gcd_step]; exact hi0_0), (by omega), (by have := Nat.mod_lt x (show y > 0 by omega); omega), (by omega), rfl, rfl⟩ (by have := Nat.mod_lt x (show y > 0 by omega); omega) id ⟨e_ rfl rfl, eD rfl rfl, eD rfl rfl, eD rfl rfl, eD rfl rfl, trivial⟩ ⟨rD rfl rfl rfl, trivial⟩ rfl rfl rfl rfl (fun _ _ => rfl)
  · rw [Decidable.not_not] at hc2
    have hy : y = 0 := by omega
    subst hy
    rw [Nat.gcd_zero_right] at hi0_0
    refine W_exit rfl ?_
    refine thenQ_x ?_
    refine thenQ_x ?_
    refine blkQ_x rfl ?_
    refine thenQ_n ?_
    refine W_seq rfl ?_
    refine Wdraw rfl (by kernel_rfl) (by kernel_rfl) ?_
    refine Dv rfl rfl rfl (U_move rfl) rfl rfl ?_
    refine Dv rfl rfl rfl (U_move rfl) rfl rfl ?_
    refine Dv rfl rfl rfl (U_quo (c := (((cntQ n (ks ++ [(a, b)])) / x : Nat) : Int)) rfl rfl (by omega) (wquoN (by omega))) rfl rfl ?_
    refine Dv rfl rfl rfl (U_move rfl) rfl rfl ?_
    refine Dv rfl rfl rfl (U_move rfl) rfl rfl ?_
    refine Dv rfl rfl rfl (U_quo (c := (((cntQ n ks) / x : Nat) : Int)) rfl rfl (by omega) (wquoN (by omega))) rfl rfl ?_
    refine Dv rfl rfl rfl (U_build rfl rfl) rfl rfl ?_
    refine Dn_ rfl rfl rfl (U_storeAll rfl rfl rfl rfl rfl rfl) rfl rfl ?_
    refine Dv rfl rfl rfl (U_assign rfl) rfl rfl ?_
    refine Dr.nil rfl ?_
    refine thenQ_n ?_
    refine W_ret rfl ?_
    exact retL (rlA rfl rfl rfl (rlT rfl rl0)) (by first | rfl | (simp only [packA]; rw [frN, frD, ← hi0_0]; first | done | rfl)) rfl
end Go.Proofs.Ythmibifghihdaaa
end

section
namespace Go.Proofs.Ythmibifghihdaaa
set_option maxRecDepth 20000
open Go.AE
theorem pop_all : ((List.range 1024).all fun m => popN m == cntN 10 m) = true := by decide +kernel
theorem pop_cnt {n m : Nat} (hn : n ≤ 10) (hm : m < 2 ^ n) : popN m = cntN n m := by
  have h1 : m < 1024 := Nat.lt_of_lt_of_le hm (Nat.pow_le_pow_right (by decide) hn : 2 ^ n ≤ 2 ^ 10)
  have h2 := List.all_eq_true.1 pop_all m (List.mem_range.2 h1)
  have h2 : popN m = cntN 10 m := by simpa using h2
  rw [h2]
  unfold cntN
  obtain ⟨d, hd⟩ : ∃ d, 10 = n + d := ⟨10 - n, by omega⟩
  rw [hd, List.range_add, List.countP_append]
  have : ((List.map (fun x => n + x) (List.range d)).countP fun a => m.testBit a) = 0 := by
    rw [List.countP_eq_zero]
    intro a ha
    obtain ⟨x, _, rfl⟩ := List.mem_map.1 ha
    intro h
    have := tb_in hm h; omega
  omega
theorem cnt_lt_of {n m a : Nat} (ha : a < n) (h : m.testBit a = false) : cntN n m < n := by
  have := cnt_ad ha h; have := @cntN_le n (ad m a); omega
def rnT (n : Nat) (br : R10) (s i : Nat) (e : Nat × Nat × Nat) : Nat := if (nxB br e.1 s && decide (popN e.1 = i)) = true then e.2.1 * en n (nxB br) (ad e.1 s) else 0
def rnF (n : Nat) (br : R10) (s : Nat) (P : List (Nat × Nat × Nat)) : List Nat := (List.range n).map fun i => (P.map (rnT n br s i)).sum
theorem rnF_len {n : Nat} {br : R10} {s : Nat} {P : List (Nat × Nat × Nat)} : (rnF n br s P).length = n := by simp [rnF]
theorem rnF_at {n : Nat} {br : R10} {s : Nat} {P : List (Nat × Nat × Nat)} {i : Nat} (h : i < (rnF n br s P).length) : (rnF n br s P)[i] = (P.map (rnT n br s i)).sum := by simp [rnF]
theorem rnF_0 {n : Nat} {br : R10} {s : Nat} : List.replicate n 0 = rnF n br s [] := by
  refine List.ext_getElem (by simp [rnF]) fun j h1 h2 => ?_
  rw [rnF_at]; simp
theorem rnF_T {n : Nat} {br : R10} {s : Nat} {P : List (Nat × Nat × Nat)} {e : Nat × Nat × Nat} {u v : Nat} (h : nxB br e.1 s = true) (hi : popN e.1 < (rnF n br s P).length) (hu : u = (rnF n br s P)[popN e.1]) (hv : v = en n (nxB br) (ad e.1 s)) : (rnF n br s P).set (popN e.1) (u + e.2.1 * v) = rnF n br s (P ++ [e]) := by
  refine List.ext_getElem (by simp [rnF]) fun j h1 h2 => ?_
  rw [List.getElem_set]
  split
  · rename_i h3; subst h3
    rw [hu, hv, rnF_at, rnF_at, List.map_append, List.sum_append]
    have : rnT n br s (popN e.1) e = e.2.1 * en n (nxB br) (ad e.1 s) := by unfold rnT; rw [if_pos (by simp [h])]
    simp [this]
  · rename_i h3
    rw [rnF_at, rnF_at, List.map_append, List.sum_append]
    have : rnT n br s j e = 0 := by unfold rnT; rw [if_neg (by simp [h3])]
    simp [this]
theorem rnF_F {n : Nat} {br : R10} {s : Nat} {P : List (Nat × Nat × Nat)} {e : Nat × Nat × Nat} (h : nxB br e.1 s = false) : rnF n br s P = rnF n br s (P ++ [e]) := by
  refine List.ext_getElem (by simp [rnF]) fun j h1 h2 => ?_
  rw [rnF_at, rnF_at]; simp [rnT, h]
theorem perm_sum {l m : List Nat} (h : l.Perm m) : l.sum = m.sum := by
  induction h with
  | nil => rfl
  | cons x _ ih => simp [ih]
  | swap x y l => simp; omega
  | trans _ _ h1 h2 => exact h1.trans h2
theorem rnF_perm {n : Nat} {br : R10} {s : Nat} {P L : List (Nat × Nat × Nat)} (h : P.Perm L) : rnF n br s P = rnF n br s L := by
  unfold rnF
  refine List.map_congr_left fun i _ => perm_sum (h.map _)
theorem mput_key {ck k v : Nat} : ∀ {L : List (Nat × Nat × Nat)} {e : Nat × Nat × Nat}, e ∈ mput ck L k v → e.1 = k ∨ ∃ x ∈ L, x.1 = e.1
  | [], e, h => by simp [mput] at h; subst h; exact .inl rfl
  | x :: L, e, h => by
    unfold mput at h
    split at h
    · rcases List.mem_cons.1 h with rfl | h
      · exact .inl rfl
      · exact .inr ⟨e, by simp [h], rfl⟩
    · rcases List.mem_cons.1 h with rfl | h
      · exact .inr ⟨e, by simp, rfl⟩
      · rcases mput_key h with h | ⟨y, h1, h2⟩
        · exact .inl h
        · exact .inr ⟨y, by simp [h1], h2⟩
theorem bgF_key {n : Nat} {br : R10} {m v : Nat} (hm : m < 2 ^ n) : ∀ (l : List Nat) (D : Mp), (∀ a ∈ l, a < n) → (∀ e ∈ D.1, e.1 < 2 ^ n) → ∀ e ∈ (bgF m v l D).1, e.1 < 2 ^ n
  | [], D, _, h => h
  | a :: l, D, hl, h => bgF_key (br := br) hm l (bgP m v a D) (fun b hb => hl b (by simp [hb])) fun e he => by
    rcases mput_key he with h1 | ⟨x, h1, h2⟩
    · rw [h1]; exact ad_lt hm (hl a (by simp))
    · rw [← h2]; exact h x h1
theorem bgS_key {n : Nat} {br : R10} : ∀ s, s ≤ 2 ^ n → ∀ e ∈ (bgS n br s).1, e.1 < 2 ^ n
  | 0, _, e, he => by simp [bgS] at he; subst he; exact Nat.two_pow_pos n
  | s + 1, h, e, he => bgF_key (br := br) (by omega) _ _ (fun a ha => (nxL_mem.1 ha).1) (bgS_key s (by omega)) e he
theorem bgL_in {n : Nat} {br : R10} {e : Nat × Nat × Nat} (h : e ∈ bgL n br) : e.1 < 2 ^ n ∧ e.2.1 = up n (nxB br) e.1 ∧ e.2.1 ≠ 0 := by
  have h1 := List.mem_filter.1 h
  have h2 := bgS_key (n := n) (br := br) (1 <<< n) (by rw [one_shl]; exact Nat.le_refl _) e h1.1
  refine ⟨h2, ?_, by simpa using h1.2⟩
  have h3 := (mget_mem (bgL_ok (n := n) (br := br)).ky (k := e.1) (v := e.2.1)).2 ⟨e.2.2, h⟩
  have h4 := gv_bgL (n := n) (br := br) h2
  rw [h3] at h4; exact h4
theorem nodup_len : ∀ {l m : List Nat}, l.Nodup → (∀ x ∈ l, x ∈ m) → l.length ≤ m.length
  | [], _, _, _ => by simp
  | a :: l, m, h, hs => by
    obtain ⟨h1, h2⟩ := List.nodup_cons.1 h
    have ha := hs a (by simp)
    have := nodup_len (l := l) (m := m.erase a) h2 fun x hx => (List.mem_erase_of_ne (by rintro rfl; exact h1 hx)).2 (hs x (by simp [hx]))
    rw [List.length_erase_of_mem ha] at this
    have := List.length_pos_of_mem ha
    simp only [List.length_cons]; omega
theorem bgL_len {n : Nat} {br : R10} (hn : n ≤ 10) : (bgL n br).length ≤ 1024 := by
  have h := nodup_len (l := (bgL n br).map (·.1)) (m := List.range (2 ^ n)) (bgL_ok (n := n) (br := br)).ky fun x hx => by
    obtain ⟨e, he, rfl⟩ := List.mem_map.1 hx
    exact List.mem_range.2 (bgL_in he).1
  rw [List.length_map, List.length_range] at h
  exact Nat.le_trans h (Nat.pow_le_pow_right (by decide) hn)
theorem rnT_le {n : Nat} {br : R10} (hn : n ≤ 10) {s i : Nat} (hs : s < n) {e : Nat × Nat × Nat} (h : e ∈ bgL n br) : rnT n br s i e ≤ 3628800 * 3628800 := by
  obtain ⟨h1, h2, _⟩ := bgL_in h
  unfold rnT
  split
  · exact Nat.mul_le_mul (by rw [h2]; exact up_lt hn h1) (en_lt (nxB_nxt br) hn (ad_lt h1 hs))
  · omega
theorem sum_le' {α : Type} {f : α → Nat} {c : Nat} : ∀ (l : List α), (∀ a ∈ l, f a ≤ c) → (l.map f).sum ≤ l.length * c
  | [], _ => by simp
  | x :: l, h => by
    have := h x (by simp); have := sum_le' l fun a ha => h a (by simp [ha])
    rw [List.map_cons, List.sum_cons, List.length_cons, Nat.add_mul]; omega
theorem rnF_le {n : Nat} {br : R10} (hn : n ≤ 10) {s : Nat} (hs : s < n) {P R : List (Nat × Nat × Nat)} (h : (P ++ R).Perm (bgL n br)) {i : Nat} : (P.map (rnT n br s i)).sum ≤ 1024 * (3628800 * 3628800) := by
  have h1 := sum_le' (f := rnT n br s i) (c := 3628800 * 3628800) P fun e he => rnT_le hn hs (h.mem_iff.1 (List.mem_append_left _ he))
  have h2 := h.length_eq
  have h3 := bgL_len (n := n) (br := br) hn
  rw [List.length_append] at h2
  exact Nat.le_trans h1 (Nat.mul_le_mul_right _ (by omega))
def rnkQ (n : Nat) (nx : Nat → Nat → Bool) (s : Nat) : List Nat := (List.range n).map fun i => ((List.range (2 ^ n)).map fun m => if (nx m s && decide (popN m = i)) = true then up n nx m * en n nx (ad m s) else 0).sum
theorem sum_filter' {p : Nat → Bool} {f : Nat → Nat} : ∀ (l : List Nat), (∀ x ∈ l, p x = false → f x = 0) → ((l.filter p).map f).sum = (l.map f).sum
  | [], _ => rfl
  | x :: l, h => by
    have ih := sum_filter' l fun y hy => h y (by simp [hy])
    rw [List.filter_cons]
    cases e : p x with
    | true => simp [ih]
    | false => simp [ih, h x (by simp) e]
theorem nodup_perm {l m : List Nat} (h1 : l.Nodup) (h2 : m.Nodup) (h : ∀ x, x ∈ l ↔ x ∈ m) : l.Perm m := by
  rw [List.perm_iff_count]
  intro a
  by_cases ha : a ∈ l
  · rw [h1.count, h2.count, if_pos ha, if_pos ((h a).1 ha)]
  · rw [h1.count, h2.count, if_neg ha, if_neg fun h' => ha ((h a).2 h')]
theorem bgL_perm {n : Nat} {br : R10} : ((bgL n br).map (·.1)).Perm ((List.range (2 ^ n)).filter fun m => !decide (up n (nxB br) m = 0)) := by
  refine nodup_perm bgL_ok.ky (List.Pairwise.filter _ List.nodup_range) fun m => ?_
  rw [List.mem_filter, List.mem_range]
  constructor
  · intro h
    obtain ⟨e, he, rfl⟩ := List.mem_map.1 h
    obtain ⟨h1, h2, h3⟩ := bgL_in he
    exact ⟨h1, by simpa [← h2] using h3⟩
  · rintro ⟨h1, h2⟩
    have h3 := gv_bgL (n := n) (br := br) h1
    have h2 : up n (nxB br) m ≠ 0 := by simpa using h2
    cases e : mget (bgL n br) m with
    | none => rw [e] at h3; exact absurd h3.symm h2
    | some v =>
      obtain ⟨k, hk⟩ := (mget_mem (bgL_ok (n := n) (br := br)).ky).1 e
      exact List.mem_map.2 ⟨_, hk, rfl⟩
theorem rnF_all {n : Nat} {br : R10} {s : Nat} : rnF n br s (bgL n br) = rnkQ n (nxB br) s := by
  unfold rnF rnkQ
  refine List.map_congr_left fun i _ => ?_
  have h1 : (bgL n br).map (rnT n br s i) = ((bgL n br).map (·.1)).map fun m => if (nxB br m s && decide (popN m = i)) = true then up n (nxB br) m * en n (nxB br) (ad m s) else 0 := by
    rw [List.map_map]
    refine List.map_congr_left fun e he => ?_
    simp only [rnT, Function.comp, (bgL_in he).2.1]
  rw [h1, perm_sum (bgL_perm.map _), sum_filter']
  intro m _ h
  have : up n (nxB br) m = 0 := by simpa using h
  rw [this]; simp
end Go.Proofs.Ythmibifghihdaaa
end

section
namespace Go.Proofs.Ythmibifghihdaaa
set_option maxRecDepth 20000
open Go.AE
theorem ranks_g (n : Nat) (ks : List (Nat × Nat)) (c : Option Nat) (hv : VB n ks) (h40 : ks.length ≤ 40) (ha : Acy n ks) (s : Nat) (hs : s < n) : Pure Try.prog 39 [bknA n ks c, i64 (s : Nat)] (.tup [.ros ((rnkQ n (nxB (briQ n ks)) s).map n64) n none, i64 0]) := by
  have hv' := hv
  obtain ⟨hn1, hn, hkl, hk⟩ := hv'
  have hk2 := vb_lt hv
  have hin := in1 hs
  have hL := bgL_ok (n := n) (br := (briQ n ks))
  refine pure_of_body Try.func39 (c := body Try.f39) rfl (by simp [Try.ntmps39]) fun w0 Φ0 => ?_
  refine W_seq rfl ?_
  refine W_reg rfl ?_
  refine Rv rfl rfl rfl (U_boxF rfl rfl rfl) rfl rfl ?_
  refine Rv rfl rfl rfl (U_assign rfl) rfl rfl ?_
  refine Rv rfl rfl rfl (U_assign rfl) rfl rfl ?_
  refine Re rfl ?_
  refine thenQ_n ?_
  refine W_seq rfl ?_
  refine W_reg rfl ?_
  refine Rv rfl rfl rfl (U_load2 rfl rfl rfl rfl) rfl rfl ?_
  refine Rv rfl rfl rfl (U_move rfl) rfl rfl ?_
  refine Rv rfl rfl rfl (U_buildSliceF (by rfl) (by decide) rfl rfl rfl) rfl rfl ?_
  refine Rv rfl rfl rfl (U_call rfl rfl (ruledC1G_p n ks c hv h40 ((s : Nat) : Int) (by assumption) ha) rfl) rfl rfl ?_
  refine Rv rfl rfl rfl (U_move rfl) rfl rfl ?_
  refine Rv rfl rfl rfl (U_extract rfl rfl) rfl rfl ?_
  refine Rv rfl rfl rfl (U_extract rfl rfl) rfl rfl ?_
  refine Rv rfl rfl rfl (U_assign rfl) rfl rfl ?_
  refine Rv rfl rfl rfl (U_assign rfl) rfl rfl ?_
  refine Re rfl ?_
  refine thenQ_n ?_
  refine W_seq rfl ?_
  refine W_seq rfl ?_
  refine W_reg rfl ?_
  refine Rv rfl rfl rfl (U_move rfl) rfl rfl ?_
  refine Rv rfl rfl rfl (U_neq rfl rfl) rfl rfl ?_
  refine Re rfl ?_
  refine thenQ_n ?_
  refine WcondP rfl rfl (fun h => absurd h (by decide)) (fun _ => ?_)
  refine W_skip rfl ?_
  refine thenQ_n ?_
  refine W_seq rfl ?_
  refine W_reg rfl ?_
  refine Rv rfl rfl rfl (U_fieldAddrR rfl) rfl rfl ?_
  refine Rv rfl rfl rfl (U_load1 rfl rfl rfl) rfl rfl ?_
  refine Ra rfl rfl rfl (U_mkL (n := n) (cs' := (List.replicate n (0 : Nat)).map n64) rfl rfl rfl (by omega) (replM rfl _)) rfl rfl rfl ?_
  refine Rv rfl rfl rfl (U_assign rfl) rfl rfl ?_
  refine Re rfl ?_
  refine thenQ_n ?_
  refine W_seq rfl ?_
  refine W_reg rfl ?_
  refine Rv rfl rfl rfl (U_move rfl) rfl rfl ?_
  refine Rv rfl rfl rfl (U_call rfl rfl (ends_p n ks c (seQ ks) (faQ n ks) (briQ n ks) (by first | assumption | omega) (by first | assumption | omega)) rfl) rfl rfl ?_
  refine Rv rfl rfl rfl (U_assign rfl) rfl rfl ?_
  refine Re rfl ?_
  refine thenQ_n ?_
  refine W_seq rfl ?_
  refine W_seq rfl ?_
  refine W_reg rfl ?_
  refine Rv rfl rfl rfl (U_move rfl) rfl rfl ?_
  refine Ra rfl rfl rfl (U_callT (mapN []) rfl rfl (begin_p n ks c (seQ ks) (faQ n ks) (briQ n ks) (by first | assumption | omega)) rfl rfl trivial rfl rfl) rfl rfl rfl ?_
  refine Rto (T' := [(1, i64 ((s : Nat) : Int)), (6, .rop (skC n ks c (seQ ks) (faQ n ks) (briQ n ks)) 0), (8, .slice 0 0 n n), (9, .ros ((enV n (nxB (briQ n ks)) 0).map n64) (1 <<< n) none), (28, .mapl 1)]) (H' := [(0, some (.cells ((List.replicate n (0 : Nat)).map n64) 2)), (1, some (.map (mE begA n64 (bgL n (briQ n ks))) (bgC n (briQ n ks))))]) (n := 2) id ⟨eD rfl rfl, eD rfl rfl, e_ rfl rfl, eD rfl rfl, e_ rfl rfl, trivial⟩ ⟨rD (mapD (fun _ => rfl) _) rfl rfl, rMM (mE_data (fun _ => rfl) (fun _ => rfl) _) rfl rfl, trivial⟩ rfl rfl rfl rfl (fun _ _ => rfl) ?_
  refine Ra rfl rfl rfl (U_rangeM Try.underlying95 rfl rfl) rfl rfl rfl ?_
  refine Re rfl ?_
  rw [rnF_0 (br := (briQ n ks)) (s := s)]
  refine thenQ_n ?_
  refine W_block rfl ?_
  refine LoopTo (T' := [(1, i64 ((s : Nat) : Int)), (6, .rop (skC n ks c (seQ ks) (faQ n ks) (briQ n ks)) 0), (8, .slice 0 0 n n), (9, .ros ((enV n (nxB (briQ n ks)) 0).map n64) (1 <<< n) none), (29, .ptr 2 0)]) (H' := [(0, some (.cells ((rnF n (briQ n ks) s []).map n64) 2)), (1, some (.map (mE begA n64 (bgL n (briQ n ks))) (bgC n (briQ n ks)))), (2, some (.iter (.mapl 1) (bgC n (briQ n ks)) (stamps []) (bgC n (briQ n ks))))]) (n := 3) rfl (fun mz_ qz_ => ∃ (P : Begs) (Rs : Begs), (P ++ Rs).Perm (bgL n (briQ n ks)) ∧ mz_ = Rs.length ∧ qz_ = ⟨[(1, i64 ((s : Nat) : Int)), (6, .rop (skC n ks c (seQ ks) (faQ n ks) (briQ n ks)) 0), (8, .slice 0 0 n n), (9, .ros ((enV n (nxB (briQ n ks)) 0).map n64) (1 <<< n) none), (29, .ptr 2 0)], [(0, some (.cells ((rnF n (briQ n ks) s P).map n64) 2)), (1, some (.map (mE begA n64 (bgL n (briQ n ks))) (bgC n (briQ n ks)))), (2, some (.iter (.mapl 1) (bgC n (briQ n ks)) (stamps P) (bgC n (briQ n ks))))], 3, []⟩) ⟨[], bgL n (briQ n ks), (List.Perm.refl _), rfl, rfl⟩ id ⟨eD rfl rfl, eD rfl rfl, e_ rfl rfl, eD rfl rfl, e_ rfl rfl, trivial⟩ ⟨rD (mapD (fun _ => rfl) _) rfl rfl, rMp (mE_data (fun _ => rfl) (fun _ => rfl) _) rfl rfl, r_ rfl rfl rfl, trivial⟩ rfl rfl rfl rfl (fun _ _ => rfl) ?_
  rintro _ _ ⟨P, Rs, hi0_0, rfl, rfl⟩
  refine W_seq rfl ?_
  refine W_reg rfl ?_
  refine RnextP (ek := begA) (el := n64) (P := P) (R := Rs) (M := bgL n (briQ n ks)) hL hi0_0 (fun e he => hi0_0.mem_iff.1 (List.mem_append_right _ he)) (fun e he => he) rfl rfl rfl rfl rfl rfl rfl rfl rfl (fun hR_30 => ?_) (fun e R1_30 R2_30 he_30 hR_30 hp_30 => ?_)
  · refine Rv rfl rfl rfl (U_extract rfl rfl) rfl rfl ?_
    refine Re rfl ?_
    refine thenQ_n ?_
    refine W_seq rfl ?_
    refine Wcond rfl rfl (fun h => nomatch h) (fun _ => ?_)
    refine W_exit rfl ?_
    refine thenQ_x ?_
    refine thenQ_x ?_
    refine blkQ_x rfl ?_
    refine thenQ_n ?_
    refine W_seq rfl ?_
    refine W_reg rfl ?_
    refine Rv rfl rfl rfl (U_move rfl) rfl rfl ?_
    refine Rv rfl rfl rfl (U_assign rfl) rfl rfl ?_
    refine Rv rfl rfl rfl (U_assign rfl) rfl rfl ?_
    refine Re rfl ?_
    refine thenQ_n ?_
    refine WfrN 0 rfl (mapD (fun _ => rfl) _) (T' := [(4, .ros ((rnF n (briQ n ks) s P).map n64) n (some n)), (5, i64 0)]) (H' := []) ⟨⟨_, rfl, fr_sl (Nat.le_refl _)⟩, ⟨_, rfl, rfl⟩, trivial⟩ trivial ?_
    refine WweakT (j := 4) rfl le_cap ?_
    refine W_ret rfl ?_
    exact retL (rlT rfl (rlT rfl rl0)) (by first | rfl | (simp only [packA]; rw [rnF_perm (show List.Perm P (bgL n (briQ n ks)) by rw [hR_30, List.append_nil] at hi0_0; exact hi0_0), rnF_all]; first | done | rfl)) rfl
  · have hei := bgL_in he_30
    have he10 : e.1 < 1024 := Nat.lt_of_lt_of_le hei.1 (Nat.pow_le_pow_right (by decide) hn : 2 ^ n ≤ 2 ^ 10)
    refine Rv rfl rfl rfl (U_extract rfl rfl) rfl rfl ?_
    refine Re rfl ?_
    refine thenQ_n ?_
    refine W_seq rfl ?_
    refine Wcond rfl rfl (fun _ => ?_) (fun h => nomatch h)
    refine W_skip rfl ?_
    refine thenQ_n ?_
    refine W_block rfl ?_
    refine W_seq rfl ?_
    refine W_reg rfl ?_
    refine Rv rfl rfl rfl (U_entryM (e := e) (P := P) (M := (bgL n (briQ n ks))) (ek := begA) (el := n64) rfl rfl rfl hL.st he_30) rfl rfl ?_
    refine Rv rfl rfl rfl (U_extract rfl rfl) rfl rfl ?_
    refine Rv rfl rfl rfl (U_extract rfl rfl) rfl rfl ?_
    refine Ra rfl rfl rfl (U_alloc) rfl rfl rfl ?_
    refine Rn rfl rfl rfl (U_storeAll rfl rfl rfl rfl rfl rfl) rfl ?_
    refine Rv rfl rfl rfl (U_assign rfl) rfl rfl ?_
    refine Re rfl ?_
    refine thenQ_n ?_
    refine WfrN 3 rfl rfl (T' := [(1, i64 ((s : Nat) : Int)), (6, .rop (skC n ks c (seQ ks) (faQ n ks) (briQ n ks)) 0), (8, .slice 0 0 n n), (9, .ros ((enV n (nxB (briQ n ks)) 0).map n64) (1 <<< n) none), (10, .rop [i64 ((e.1 : Nat) : Int)] 0), (11, i64 ((e.2.1 : Nat) : Int)), (29, .ptr 2 0)]) (H' := [(0, some (.cells ((rnF n (briQ n ks) s P).map n64) 2)), (1, some (.map (mE begA n64 (bgL n (briQ n ks))) (bgC n (briQ n ks)))), (2, some (.iter (.mapl 1) (bgC n (briQ n ks)) (stamps (P ++ [e])) (bgC n (briQ n ks))))]) ⟨⟨_, rfl, rfl⟩, ⟨_, rfl, rfl⟩, ⟨_, rfl, rfl⟩, ⟨_, rfl, rfl⟩, ⟨_, rfl, rfl⟩, ⟨_, rfl, rfl⟩, ⟨_, rfl, rfl⟩, trivial⟩ ⟨⟨rfl, rFD (mapD (fun _ => rfl) _) rfl⟩, ⟨rfl, rFMp (mE_data (fun _ => rfl) (fun _ => rfl) _) rfl⟩, ⟨rfl, rF rfl rfl⟩, trivial⟩ ?_
    refine W_seq rfl ?_
    refine Wdraw rfl (by kernel_rfl) (by kernel_rfl) ?_
    refine Dv rfl rfl rfl (U_fieldAddrR rfl) rfl rfl ?_
    refine Dv rfl rfl rfl (U_load1 rfl rfl rfl) rfl rfl ?_
    refine Dv rfl rfl rfl (U_move rfl) rfl rfl ?_
    refine Dv rfl rfl rfl (U_shr rfl rfl (by omega) (shrN (n := e.1) (i := s) (lt63 he10))) rfl rfl ?_
    refine Dv rfl rfl rfl (U_and rfl rfl (andN (a := e.1 >>> s) (b := 1) (sh63 he10) (by omega))) rfl rfl ?_
    refine Dv rfl rfl rfl (U_eql rfl rfl) rfl rfl ?_
    refine Dv rfl rfl rfl (U_move rfl) rfl rfl ?_
    refine Dsplit (t := 41) rfl (fun hg1 => ?_) (fun hg1 => ?_)
    · rw [hg1]
      have hg1' : (((e.1 >>> s) &&& 1 : Nat) : Int) = 0 := of_decide_eq_true hg1
      have hcg1 := hg1'
      refine Dv rfl rfl rfl (U_move rfl) rfl rfl ?_
      refine Dv rfl rfl rfl (U_move rfl) rfl rfl ?_
      refine Dv rfl rfl rfl (U_nilCheckR rfl) rfl rfl ?_
      refine Dv rfl rfl rfl (U_fieldAddrR rfl) rfl rfl ?_
      have hx2 : s < 10 := by omega
      refine Dv rfl rfl rfl (U_indexAR (j := s) rfl rfl rfl hx2) rfl rfl ?_
      refine Dv rfl rfl rfl (U_load1 rfl rfl (skG22 hx2)) rfl rfl ?_
      refine Dv rfl rfl rfl (U_fieldAddrR rfl) rfl rfl ?_
      refine Dv rfl rfl rfl (U_load1 rfl rfl rfl) rfl rfl ?_
      refine Dv rfl rfl rfl (U_andNot rfl rfl (andNotN (a := (briQ n ks).g s) (b := e.1) (R10.lt63 _ _) (lt63 he10))) rfl rfl ?_
      refine Dv rfl rfl rfl (U_eql rfl rfl) rfl rfl ?_
      refine Dv rfl rfl rfl (U_pick_t rfl rfl) rfl rfl ?_
      refine Dr.nil rfl ?_
      refine thenQ_n ?_
      refine WcondP rfl rfl (fun hc2 => ?_) (fun hc2 => ?_)
      · have hnx : nxB (briQ n ks) e.1 s = true := by simp only [nxB]; rw [decide_eq_true hcg1, decide_eq_true hc2]; rfl
        have hpc : popN e.1 < n := by rw [pop_cnt hn hei.1]; exact cnt_lt_of hs (nxB_tb hnx)
        have hpl : popN e.1 < (rnF n (briQ n ks) s P).length := by rw [rnF_len]; exact hpc
        have hel2 : (e.1 ||| 1 <<< s) < 1 <<< n := by rw [one_shl (n := n)]; exact ad_lt hei.1 hs
        have hel : (e.1 ||| 1 <<< s) < (enV n (nxB (briQ n ks)) 0).length := by rw [enV_len]; exact hel2
        have hev : (enV n (nxB (briQ n ks)) 0)[(e.1 ||| 1 <<< s)] = en n (nxB (briQ n ks)) (ad e.1 s) := by rw [enV_at, if_pos (Nat.zero_le _)]
        have hb1 : (rnF n (briQ n ks) s P)[popN e.1] ≤ 1024 * (3628800 * 3628800) := by rw [rnF_at]; exact rnF_le hn hs hi0_0
        have hb2 : (enV n (nxB (briQ n ks)) 0)[(e.1 ||| 1 <<< s)] ≤ 3628800 := by rw [hev]; exact en_lt (nxB_nxt _) hn (ad_lt hei.1 hs)
        have hb3 : e.2.1 ≤ 3628800 := by rw [hei.2.1]; exact up_lt hn hei.1
        have hb4 : e.2.1 * (enV n (nxB (briQ n ks)) 0)[(e.1 ||| 1 <<< s)] ≤ 3628800 * 3628800 := Nat.mul_le_mul hb3 hb2
        refine Wdraw rfl (by kernel_rfl) (by kernel_rfl) ?_
        refine Dv rfl rfl rfl (U_move rfl) rfl rfl ?_
        refine Dv rfl rfl rfl (U_loadAll rfl rfl rfl) rfl rfl ?_
        refine Dv rfl rfl rfl (U_call rfl rfl (many_p e.1 (by first | assumption | omega)) rfl) rfl rfl ?_
        have hx3 : (popN e.1) < (rnF n (briQ n ks) s P).length := by omega
        refine Dv rfl rfl rfl (U_indexS (j := (popN e.1)) rfl rfl rfl (by omega)) rfl rfl ?_
        refine Dv rfl rfl rfl (U_load1 rfl rfl (getM0 hx3)) rfl rfl ?_
        refine Dv rfl rfl rfl (U_move rfl) rfl rfl ?_
        refine Dv rfl rfl rfl (U_move rfl) rfl rfl ?_
        refine Dv rfl rfl rfl (U_fieldAddrR rfl) rfl rfl ?_
        refine Dv rfl rfl rfl (U_load1 rfl rfl rfl) rfl rfl ?_
        refine Dv rfl rfl rfl (U_move rfl) rfl rfl ?_
        refine Dv rfl rfl rfl (U_shl rfl rfl (by omega) (shlN (n := 1) (i := s) (shl63 (by omega)) (by omega))) rfl rfl ?_
        refine Dv rfl rfl rfl (U_or rfl rfl (orN (a := e.1) (b := 1 <<< s) (lt63 he10) (lt63 (shl1024 (by omega))))) rfl rfl ?_
        have hx4 : (e.1 ||| (1 <<< s)) < (enV n (nxB (briQ n ks)) 0).length := by omega
        refine Dv rfl rfl rfl (U_indexR (j := (e.1 ||| (1 <<< s))) rfl rfl rfl (by omega)) rfl rfl ?_
        refine Dv rfl rfl rfl (U_load1 rfl rfl (getM hx4)) rfl rfl ?_
        refine Dv rfl rfl rfl (U_mul rfl rfl (w64e (m := ((e.2.1 * (enV n (nxB (briQ n ks)) 0)[(e.1 ||| 1 <<< s)] : Nat) : Int)) (by omega) (by omega) (by omega))) rfl rfl ?_
        refine Dv rfl rfl rfl (U_add rfl rfl (w64e (m := (((rnF n (briQ n ks) s P)[popN e.1] + e.2.1 * (enV n (nxB (briQ n ks)) 0)[(e.1 ||| 1 <<< s)] : Nat) : Int)) (by omega) (by omega) (by omega))) rfl rfl ?_
        refine Dv rfl rfl rfl (U_indexS (j := (popN e.1)) rfl rfl rfl (by omega)) rfl rfl ?_
        refine Dn_ rfl rfl rfl (U_store (n := 1) (cs' := ((rnF n (briQ n ks) s P).set (popN e.1) ((rnF n (briQ n ks) s P)[popN e.1] + e.2.1 * (enV n (nxB (briQ n ks)) 0)[(e.1 ||| 1 <<< s)])).map n64) rfl rfl rfl rfl rfl (stLt hx3) rfl setM) rfl rfl ?_
        refine Dr.nil rfl ?_
        refine blkQ_n ?_
        refine thenQ_n ?_
        first | rw [rnF_T hnx hpl (by rfl) hev] | rw [rnF_F hnx]
        exact againTo (T' := [(1, i64 ((s : Nat) : Int)), (6, .rop (skC n ks c (seQ ks) (faQ n ks) (briQ n ks)) 0), (8, .slice 0 0 n n), (9, .ros ((enV n (nxB (briQ n ks)) 0).map n64) (1 <<< n) none), (29, .ptr 2 0)]) (H' := [(0, some (.cells ((rnF n (briQ n ks) s (P ++ [e])).map n64) 2)), (1, some (.map (mE begA n64 (bgL n (briQ n ks))) (bgC n (briQ n ks)))), (2, some (.iter (.mapl 1) (bgC n (briQ n ks)) (stamps (P ++ [e])) (bgC n (briQ n ks))))]) (n := 3) ((R1_30 ++ R2_30).length) ⟨P ++ [e], R1_30 ++ R2_30, hp_30, rfl, rfl⟩ (by rw [hR_30]; simp) id ⟨eD rfl rfl, eD rfl rfl, e_ rfl rfl, eD rfl rfl, e_ rfl rfl, trivial⟩ ⟨rD (mapD (fun _ => rfl) _) rfl rfl, rMp (mE_data (fun _ => rfl) (fun _ => rfl) _) rfl rfl, r_ rfl rfl rfl, trivial⟩ rfl rfl rfl rfl (fun _ _ => rfl)
      · have hnx : nxB (briQ n ks) e.1 s = false := by simp only [nxB]; rw [decide_eq_true hcg1, decide_eq_false hc2]; rfl
        refine W_skip rfl ?_
        refine blkQ_n ?_
        refine thenQ_n ?_
        first | rw [rnF_T hnx hpl (by rfl) hev] | rw [rnF_F hnx]
        exact againTo (T' := [(1, i64 ((s : Nat) : Int)), (6, .rop (skC n ks c (seQ ks) (faQ n ks) (briQ n ks)) 0), (8, .slice 0 0 n n), (9, .ros ((enV n (nxB (briQ n ks)) 0).map n64) (1 <<< n) none), (29, .ptr 2 0)]) (H' := [(0, some (.cells ((rnF n (briQ n ks) s (P ++ [e])).map n64) 2)), (1, some (.map (mE begA n64 (bgL n (briQ n ks))) (bgC n (briQ n ks)))), (2, some (.iter (.mapl 1) (bgC n (briQ n ks)) (stamps (P ++ [e])) (bgC n (briQ n ks))))]) (n := 3) ((R1_30 ++ R2_30).length) ⟨P ++ [e], R1_30 ++ R2_30, hp_30, rfl, rfl⟩ (by rw [hR_30]; simp) id ⟨eD rfl rfl, eD rfl rfl, e_ rfl rfl, eD rfl rfl, e_ rfl rfl, trivial⟩ ⟨rD (mapD (fun _ => rfl) _) rfl rfl, rMp (mE_data (fun _ => rfl) (fun _ => rfl) _) rfl rfl, r_ rfl rfl rfl, trivial⟩ rfl rfl rfl rfl (fun _ _ => rfl)
    · rw [hg1]
      have hg1' : ¬ ((((e.1 >>> s) &&& 1 : Nat) : Int) = 0) := of_decide_eq_false hg1
      have hnx : nxB (briQ n ks) e.1 s = false := by simp only [nxB]; rw [decide_eq_false hg1']; rfl
      refine Ds rfl rfl rfl rfl rfl ?_
      refine Ds rfl rfl rfl rfl rfl ?_
      refine Ds rfl rfl rfl rfl rfl ?_
      refine Ds rfl rfl rfl rfl rfl ?_
      refine Ds rfl rfl rfl rfl rfl ?_
      refine Ds rfl rfl rfl rfl rfl ?_
      refine Ds rfl rfl rfl rfl rfl ?_
      refine Ds rfl rfl rfl rfl rfl ?_
      refine Ds rfl rfl rfl rfl rfl ?_
      refine Ds rfl rfl rfl rfl rfl ?_
      refine Dv rfl rfl rfl (U_pick_f rfl rfl) rfl rfl ?_
      refine Dr.nil rfl ?_
      refine thenQ_n ?_
      refine Wcond rfl rfl (fun h => nomatch h) (fun _ => ?_)
      refine W_skip rfl ?_
      refine blkQ_n ?_
      refine thenQ_n ?_
      first | rw [rnF_T hnx hpl (by rfl) hev] | rw [rnF_F hnx]
      exact againTo (T' := [(1, i64 ((s : Nat) : Int)), (6, .rop (skC n ks c (seQ ks) (faQ n ks) (briQ n ks)) 0), (8, .slice 0 0 n n), (9, .ros ((enV n (nxB (briQ n ks)) 0).map n64) (1 <<< n) none), (29, .ptr 2 0)]) (H' := [(0, some (.cells ((rnF n (briQ n ks) s (P ++ [e])).map n64) 2)), (1, some (.map (mE begA n64 (bgL n (briQ n ks))) (bgC n (briQ n ks)))), (2, some (.iter (.mapl 1) (bgC n (briQ n ks)) (stamps (P ++ [e])) (bgC n (briQ n ks))))]) (n := 3) ((R1_30 ++ R2_30).length) ⟨P ++ [e], R1_30 ++ R2_30, hp_30, rfl, rfl⟩ (by rw [hR_30]; simp) id ⟨eD rfl rfl, eD rfl rfl, e_ rfl rfl, eD rfl rfl, e_ rfl rfl, trivial⟩ ⟨rD (mapD (fun _ => rfl) _) rfl rfl, rMp (mE_data (fun _ => rfl) (fun _ => rfl) _) rfl rfl, r_ rfl rfl rfl, trivial⟩ rfl rfl rfl rfl (fun _ _ => rfl)
end Go.Proofs.Ythmibifghihdaaa
end

section
namespace Go.Proofs.Ythmibifghihdaaa
set_option maxRecDepth 20000
open Go.AE
theorem ints_nats (q : List Nat) (d : Option Nat) : intsA (q.map Int.ofNat) d = natsA q d := by simp only [intsA, natsA, List.map_map, List.length_map]; rfl
theorem inL_nats {n : Nat} {q : List Nat} (h : ∀ x ∈ q, x < n) : inL 0 (((n : Nat) : Int) - 1) (q.map Int.ofNat) = true := by
  rw [inL, List.all_eq_true]
  intro x hx
  obtain ⟨y, hy, rfl⟩ := List.mem_map.1 hx
  have := h y hy
  simp; omega
theorem withinN_p (n : Nat) (q : List Nat) (c : Option Nat) (hq : ∀ x ∈ q, x < n) (hl : q.length ≤ 1000000) : Pure Try.prog 56 [i64 0, i64 (((n : Nat) : Int) - 1), natsA q c] (.bool true) := by
  have := within_p 0 (((n : Nat) : Int) - 1) (q.map Int.ofNat) c (by simpa using hl)
  rwa [inL_nats hq, ints_nats] at this
theorem idxI_map {q : List Nat} {x : Nat} : idxI (fun y => decide ((x : Int) = y)) (q.map Int.ofNat) = idxI (fun y => decide (x = y)) q := by
  unfold idxI
  rw [List.findIdx?_map]
  have : ((fun y : Int => decide ((x : Int) = y)) ∘ Int.ofNat) = fun y => decide (x = y) := by
    funext y; exact decide_eq_decide.2 ⟨fun h => Int.ofNat.inj h, fun h => by rw [h]; rfl⟩
  rw [this]
theorem indexN_p (q : List Nat) (x : Nat) (c : Option Nat) (hl : q.length ≤ 1000000) : Pure Try.prog 61 [natsA q c, i64 (x : Nat)] (i64 (idxI (fun y => decide (x = y)) q)) := by
  have := index_p (q.map Int.ofNat) (x : Nat) c (by simpa using hl)
  rwa [idxI_map, ints_nats] at this
theorem containsN_p (q : List Nat) (x : Nat) (c : Option Nat) (hl : q.length ≤ 1000000) {m : Nat} (hm : m = q.length) : Pure Try.prog 60 [.ros (q.map n64) m c, i64 (x : Nat)] (.bool (q.any fun y => decide (x = y))) := by
  subst hm
  have := contains_p (q.map Int.ofNat) (x : Nat) c (by simpa using hl)
  have e : ((q.map Int.ofNat).any fun y => decide (((x : Nat) : Int) = y)) = q.any fun y => decide (x = y) := by
    rw [List.any_map]; congr 1; funext y; exact decide_eq_decide.2 ⟨fun h => Int.ofNat.inj h, fun h => by rw [h]; rfl⟩
  rwa [e, ints_nats] at this
def vioP (q : List Nat) (p : Nat × Nat) : Bool := decide (idxI (fun y => decide (p.2 = y)) q < idxI (fun y => decide (p.1 = y)) q)
def chkON (ks : List (Nat × Nat)) (q : List Nat) : Int := if ¬ q.Nodup then 2 else if ks.any (vioP q) = true then 16 else 0
theorem nodup_take {q : List Nat} {k : Nat} (hk : k < q.length) (h : (q.take k).Nodup) (hn : ((q.take k).any fun y => decide (q[k] = y)) = false) : (q.take (k + 1)).Nodup := by
  rw [List.take_succ_eq_append_getElem hk, List.nodup_append]
  refine ⟨h, by simp, fun a ha b hb => ?_⟩
  simp only [List.mem_singleton] at hb
  subst hb
  rintro rfl
  rw [List.any_eq_false] at hn
  exact hn _ ha (by simp)
theorem not_nodup {q : List Nat} {k : Nat} (hk : k < q.length) (hn : ((q.take k).any fun y => decide (q[k] = y)) = true) : ¬ q.Nodup := by
  intro h
  obtain ⟨y, hy, h2⟩ := List.any_eq_true.1 hn
  have h2 : q[k] = y := by simpa using h2
  have h3 : (q.take (k + 1)).Nodup := h.sublist (List.take_sublist _ _)
  rw [List.take_succ_eq_append_getElem hk, List.nodup_append] at h3
  exact h3.2.2 y hy q[k] (by simp) h2.symm
def prvN (q : List Nat) (k : Nat) : Nat := if k = 0 then q.getD (q.length - 1) 0 else q.getD (k - 1) 0
def cirB (ks : List (Nat × Nat)) (q : List Nat) : Bool := (List.range q.length).all fun k => decide ((prvN q k, q.getD k 0) ∈ ks)
def chkCN (ks : List (Nat × Nat)) (q : List Nat) : Int := if cirB ks q = true then 0 else 14
theorem prvN_lt {n : Nat} {q : List Nat} (h : ∀ x ∈ q, x < n) {k : Nat} (hk : k < q.length) : prvN q k < n := by
  unfold prvN
  split
  · rw [getD_eq (by omega)]; exact h _ (List.getElem_mem _)
  · rw [getD_eq (by omega)]; exact h _ (List.getElem_mem _)
theorem cirB_T {ks : List (Nat × Nat)} {q : List Nat} (h : ∀ j, j < q.length → (prvN q j, q.getD j 0) ∈ ks) : cirB ks q = true := List.all_eq_true.2 fun j hj => by simpa using h j (List.mem_range.1 hj)
theorem cirB_F {ks : List (Nat × Nat)} {q : List Nat} {j : Nat} (hj : j < q.length) (h : (prvN q j, q.getD j 0) ∉ ks) : cirB ks q = false := by
  rw [cirB, List.all_eq_false]; exact ⟨j, List.mem_range.2 hj, by simpa using h⟩
theorem se_bt {n : Nat} {ks : List (Nat × Nat)} (hv : VB n ks) {a b : Nat} : bt ((seQ ks).g a) b = decide ((a, b) ∈ ks) := by rw [bt_eq, seQ_tb ks (vb10 hv)]
theorem prvN_0 {q : List Nat} (h : 0 < q.length) : q[q.length - 1]'(by omega) = prvN q 0 := by rw [prvN, if_pos rfl, getD_eq (by omega)]
theorem prvN_S {q : List Nat} {k : Nat} (h : k < q.length) : q[k] = prvN q (k + 1) := by rw [prvN, if_neg (by omega), getD_eq (by omega)]; rfl
theorem checkOrder_n (n : Nat) (ks : List (Nat × Nat)) (c : Option Nat) (hv : VB n ks) (h40 : ks.length ≤ 40) (q : List Nat) (d : Option Nat) (hql : q.length ≤ 1000000) (hqn : ∀ x ∈ q, x < n) (hne : q.length = n) : Pure Try.prog 22 [bknA n ks c, natsA q d] (i64 (chkON ks q)) := by
  have hv' := hv
  obtain ⟨hn1, hn, hkl, hk⟩ := hv'
  have hk2 := vb_lt hv
  refine pure_of_body Try.func22 (c := body Try.f22) rfl (by simp [Try.ntmps22]) fun w0 Φ0 => ?_
  refine W_seq rfl ?_
  refine W_reg rfl ?_
  refine Rv rfl rfl rfl (U_boxF rfl rfl rfl) rfl rfl ?_
  refine Rv rfl rfl rfl (U_assign rfl) rfl rfl ?_
  refine Re rfl ?_
  refine thenQ_n ?_
  refine W_seq rfl ?_
  refine W_reg rfl ?_
  refine Rv rfl rfl rfl (U_load2 rfl rfl rfl rfl) rfl rfl ?_
  refine Rv rfl rfl rfl (U_call rfl rfl (openG_p n ks c hv h40) rfl) rfl rfl ?_
  refine Rv rfl rfl rfl (U_move rfl) rfl rfl ?_
  refine Rv rfl rfl rfl (U_extract rfl rfl) rfl rfl ?_
  refine Rv rfl rfl rfl (U_extract rfl rfl) rfl rfl ?_
  refine Rv rfl rfl rfl (U_assign rfl) rfl rfl ?_
  refine Rv rfl rfl rfl (U_assign rfl) rfl rfl ?_
  refine Re rfl ?_
  refine thenQ_n ?_
  refine W_seq rfl ?_
  refine W_block rfl ?_
  refine W_seq rfl ?_
  refine W_reg rfl ?_
  refine Rv rfl rfl rfl (U_move rfl) rfl rfl ?_
  refine Rv rfl rfl rfl (U_neq rfl rfl) rfl rfl ?_
  refine Rv rfl rfl rfl (U_assign rfl) rfl rfl ?_
  refine Re rfl ?_
  refine thenQ_n ?_
  refine WcondP rfl rfl (fun h => absurd h (by decide)) (fun _ => ?_)
  refine W_seq rfl ?_
  refine W_reg rfl ?_
  refine Rv rfl rfl rfl (U_move rfl) rfl rfl ?_
  refine Rv rfl rfl rfl (U_lenOf rfl len_ros) rfl rfl ?_
  refine Rv rfl rfl rfl (U_fieldAddrR rfl) rfl rfl ?_
  refine Rv rfl rfl rfl (U_load1 rfl rfl rfl) rfl rfl ?_
  refine Rv rfl rfl rfl (U_neq rfl rfl) rfl rfl ?_
  refine Rv rfl rfl rfl (U_assign rfl) rfl rfl ?_
  refine Re rfl ?_
  refine thenQ_n ?_
  refine WcondP rfl rfl (fun hc1 => absurd hc1 (by omega)) (fun hc1 => ?_)
  refine W_seq rfl ?_
  refine W_reg rfl ?_
  refine Rv rfl rfl rfl (U_fieldAddrR rfl) rfl rfl ?_
  refine Rv rfl rfl rfl (U_load1 rfl rfl rfl) rfl rfl ?_
  refine Rv rfl rfl rfl (U_sub rfl rfl (w64 (by omega) (by omega))) rfl rfl ?_
  refine Rv rfl rfl rfl (U_move rfl) rfl rfl ?_
  refine Rv rfl rfl rfl (U_call rfl rfl (withinN_p n q d (by assumption) (by first | assumption | omega | (simp; done) | (simp; omega))) rfl) rfl rfl ?_
  refine Rv rfl rfl rfl (U_not rfl) rfl rfl ?_
  refine Rv rfl rfl rfl (U_assign rfl) rfl rfl ?_
  refine Re rfl ?_
  refine thenQ_n ?_
  refine Wcond rfl rfl (fun h => nomatch h) (fun _ => ?_)
  refine W_skip rfl ?_
  refine blkQ_n ?_
  refine thenQ_n ?_
  refine W_seq rfl ?_
  refine W_seq rfl ?_
  refine W_reg rfl ?_
  refine Rv rfl rfl rfl (U_move rfl) rfl rfl ?_
  refine Rv rfl rfl rfl (U_lenOf rfl len_ros) rfl rfl ?_
  refine Rv rfl rfl rfl (U_move rfl) rfl rfl ?_
  refine Re rfl ?_
  refine thenQ_n ?_
  refine W_block rfl ?_
  refine LoopTo (T' := [(1, .ros (q.map n64) q.length d), (2, .rop [i64 ((n : Nat) : Int), .ros (ks.flatMap lkN) ks.length c] 0), (33, .ros (q.map n64) q.length d), (34, i64 ((q.length : Nat) : Int)), (35, i64 ((0 : Nat) : Int))]) (H' := []) (n := 0) rfl (fun mz_ qz_ => ∃ (k : Nat), k ≤ q.length ∧ (q.take k).Nodup ∧ mz_ = q.length - k ∧ qz_ = ⟨[(1, .ros (q.map n64) q.length d), (2, .rop [i64 ((n : Nat) : Int), .ros (ks.flatMap lkN) ks.length c] 0), (33, .ros (q.map n64) q.length d), (34, i64 ((q.length : Nat) : Int)), (35, i64 ((k : Nat) : Int))], [], 0, []⟩) ⟨0, (by omega), (by simp), rfl, rfl⟩ id ⟨eD rfl rfl, eD rfl rfl, eD rfl rfl, eD rfl rfl, eD rfl rfl, trivial⟩ trivial rfl rfl rfl rfl (fun _ _ => rfl) ?_
  rintro _ _ ⟨k, hi0_0, hi0_1, rfl, rfl⟩
  refine W_seq rfl ?_
  refine W_reg rfl ?_
  refine Rv rfl rfl rfl (U_lss rfl rfl) rfl rfl ?_
  refine Re rfl ?_
  refine thenQ_n ?_
  refine W_seq rfl ?_
  refine WcondP rfl rfl (fun hc3 => ?_) (fun hc3 => ?_)
  · have hck : k < q.length := by omega
    refine W_skip rfl ?_
    refine thenQ_n ?_
    refine W_seq rfl ?_
    refine W_block rfl ?_
    refine W_seq rfl ?_
    refine W_reg rfl ?_
    refine Rv rfl rfl rfl (U_move rfl) rfl rfl ?_
    have hx1 : k < q.length := by omega
    refine Rv rfl rfl rfl (U_indexR (j := k) rfl rfl rfl hx1) rfl rfl ?_
    refine Rv rfl rfl rfl (U_load1 rfl rfl (getM hx1)) rfl rfl ?_
    refine Rv rfl rfl rfl (U_assign rfl) rfl rfl ?_
    refine Rv rfl rfl rfl (U_assign rfl) rfl rfl ?_
    refine Re rfl ?_
    refine thenQ_n ?_
    refine W_seq rfl ?_
    refine W_reg rfl ?_
    refine Rv rfl rfl rfl (U_move rfl) rfl rfl ?_
    refine Rv rfl rfl rfl (U_move rfl) rfl rfl ?_
    have hs2 : k ≤ q.length := by omega
    refine Rv rfl rfl rfl (U_sliceToL rfl rfl hs2 (mapD (fun _ => rfl) _) (takeM _ _)) rfl rfl ?_
    refine Rv rfl rfl rfl (U_move rfl) rfl rfl ?_
    refine Rv rfl rfl rfl (U_call rfl rfl (containsN_p (q.take k) q[k] none (by first | assumption | omega | (simp; done) | (simp; omega)) (by first | rfl | (simp; omega))) rfl) rfl rfl ?_
    refine Re rfl ?_
    refine thenQ_n ?_
    refine Wcond rfl rfl (fun hc4 => ?_) (fun hc4 => ?_)
    · refine W_seq rfl ?_
      refine W_reg rfl ?_
      refine Rv rfl rfl rfl (U_assign rfl) rfl rfl ?_
      refine Re rfl ?_
      refine thenQ_n ?_
      refine W_ret rfl ?_
      refine blkQ_r ?_
      refine thenQ_r ?_
      refine thenQ_r ?_
      refine blkQ_r ?_
      refine thenQ_r ?_
      exact retL (rlT rfl rl0) (by first | rfl | (simp only [packA]; rw [chkON, if_pos (not_nodup hck hc4)]; first | done | rfl) | (simp only [packA]; rw [chkON, if_neg (by simpa using hnd), if_pos (List.any_eq_true.2 ⟨_, List.getElem_mem hck2, by simpa [vioP] using hc6⟩)]; first | done | rfl) | (simp only [packA]; rw [chkON, if_neg (by simpa using hnd), if_neg (by rw [any_false fun j hj => hi1_1 j hj (by omega)]; simp)]; first | done | rfl)) rfl
    · have hc4' := Bool.eq_false_iff.1 hc4
      refine W_skip rfl ?_
      refine blkQ_n ?_
      refine thenQ_n ?_
      refine W_reg rfl ?_
      refine Rv rfl rfl rfl (U_add rfl rfl (w64e (m := ((k + 1 : Nat) : Int)) (by omega) (by omega) (by omega))) rfl rfl ?_
      refine Rv rfl rfl rfl (U_move rfl) rfl rfl ?_
      refine Re rfl ?_
      refine thenQ_n ?_
      exact againTo (T' := [(1, .ros (q.map n64) q.length d), (2, .rop [i64 ((n : Nat) : Int), .ros (ks.flatMap lkN) ks.length c] 0), (33, .ros (q.map n64) q.length d), (34, i64 ((q.length : Nat) : Int)), (35, i64 (((k + 1) : Nat) : Int))]) (H' := []) (n := 0) (q.length - (k + 1)) ⟨k + 1, (by omega), (nodup_take hck hi0_1 hc4), rfl, rfl⟩ (by omega) id ⟨eD rfl rfl, eD rfl rfl, eD rfl rfl, eD rfl rfl, eD rfl rfl, trivial⟩ trivial rfl rfl rfl rfl (fun _ _ => rfl)
  · have hnd : q.Nodup := by have := hi0_1; rwa [List.take_of_length_le (by omega)] at this
    refine W_exit rfl ?_
    refine thenQ_x ?_
    refine thenQ_x ?_
    refine blkQ_x rfl ?_
    refine thenQ_n ?_
    refine W_seq rfl ?_
    refine W_seq rfl ?_
    refine W_reg rfl ?_
    refine Rv rfl rfl rfl (U_fieldAddrR rfl) rfl rfl ?_
    refine Rv rfl rfl rfl (U_load1 rfl rfl rfl) rfl rfl ?_
    refine Rv rfl rfl rfl (U_lenOf rfl len_ros) rfl rfl ?_
    refine Rv rfl rfl rfl (U_move rfl) rfl rfl ?_
    refine Re rfl ?_
    refine thenQ_n ?_
    refine W_block rfl ?_
    refine LoopTo (T' := [(1, .ros (q.map n64) q.length d), (47, .ros (ks.flatMap lkN) ks.length c), (48, i64 ((ks.length : Nat) : Int)), (49, i64 ((0 : Nat) : Int))]) (H' := []) (n := 0) rfl (fun mz_ qz_ => ∃ (k : Nat), k ≤ ks.length ∧ (∀ j (hj : j < ks.length), j < k → vioP q ks[j] = false) ∧ mz_ = ks.length - k ∧ qz_ = ⟨[(1, .ros (q.map n64) q.length d), (47, .ros (ks.flatMap lkN) ks.length c), (48, i64 ((ks.length : Nat) : Int)), (49, i64 ((k : Nat) : Int))], [], 0, []⟩) ⟨0, (by omega), (fun j hj h => absurd h (Nat.not_lt_zero _)), rfl, rfl⟩ id ⟨eD rfl rfl, eD rfl rfl, eD rfl rfl, eD rfl rfl, trivial⟩ trivial rfl rfl rfl rfl (fun _ _ => rfl) ?_
    rintro _ _ ⟨k, hi1_0, hi1_1, rfl, rfl⟩
    refine W_seq rfl ?_
    refine W_reg rfl ?_
    refine Rv rfl rfl rfl (U_lss rfl rfl) rfl rfl ?_
    refine Re rfl ?_
    refine thenQ_n ?_
    refine W_seq rfl ?_
    refine WcondP rfl rfl (fun hc5 => ?_) (fun hc5 => ?_)
    · have hck2 : k < ks.length := by omega
      refine W_skip rfl ?_
      refine thenQ_n ?_
      refine W_seq rfl ?_
      refine W_block rfl ?_
      refine W_seq rfl ?_
      refine W_reg rfl ?_
      have hx3 : k < ks.length := by omega
      refine Rv rfl rfl rfl (U_indexR (j := k) rfl rfl rfl hx3) rfl rfl ?_
      refine Rv rfl rfl rfl (U_load2 rfl rfl (lkH0 hx3) (lkH1 hx3)) rfl rfl ?_
      refine Ra rfl rfl rfl (U_alloc) rfl rfl rfl ?_
      refine Rn rfl rfl rfl (U_storeAll rfl rfl rfl rfl rfl rfl) rfl ?_
      refine Re rfl ?_
      refine thenQ_n ?_
      refine WfrN 0 rfl rfl (T' := [(1, .ros (q.map n64) q.length d), (10, .rop [i64 ((ks[k].1 : Nat) : Int), i64 ((ks[k].2 : Nat) : Int)] 0), (47, .ros (ks.flatMap lkN) ks.length c), (48, i64 ((ks.length : Nat) : Int)), (49, i64 ((k : Nat) : Int))]) (H' := []) ⟨⟨_, rfl, rfl⟩, ⟨_, rfl, rfl⟩, ⟨_, rfl, rfl⟩, ⟨_, rfl, rfl⟩, ⟨_, rfl, rfl⟩, trivial⟩ trivial ?_
      refine W_seq rfl ?_
      refine Wdraw rfl (by kernel_rfl) (by kernel_rfl) ?_
      refine Dv rfl rfl rfl (U_move rfl) rfl rfl ?_
      refine Dv rfl rfl rfl (U_indexAR (j := 0) rfl rfl rfl (by decide)) rfl rfl ?_
      refine Dv rfl rfl rfl (U_load1 rfl rfl rfl) rfl rfl ?_
      refine Dv rfl rfl rfl (U_call rfl rfl (indexN_p q ks[k].1 d (by first | assumption | omega | (simp; done) | (simp; omega))) rfl) rfl rfl ?_
      refine Dv rfl rfl rfl (U_move rfl) rfl rfl ?_
      refine Dv rfl rfl rfl (U_indexAR (j := 1) rfl rfl rfl (by decide)) rfl rfl ?_
      refine Dv rfl rfl rfl (U_load1 rfl rfl rfl) rfl rfl ?_
      refine Dv rfl rfl rfl (U_call rfl rfl (indexN_p q ks[k].2 d (by first | assumption | omega | (simp; done) | (simp; omega))) rfl) rfl rfl ?_
      refine Dv rfl rfl rfl (U_gtr rfl rfl) rfl rfl ?_
      refine Dr.nil rfl ?_
      refine thenQ_n ?_
      refine WcondP rfl rfl (fun hc6 => ?_) (fun hc6 => ?_)
      · refine W_seq rfl ?_
        refine W_reg rfl ?_
        refine Rv rfl rfl rfl (U_assign rfl) rfl rfl ?_
        refine Re rfl ?_
        refine thenQ_n ?_
        refine W_ret rfl ?_
        refine blkQ_r ?_
        refine thenQ_r ?_
        refine thenQ_r ?_
        refine blkQ_r ?_
        refine thenQ_r ?_
        exact retL (rlT rfl rl0) (by first | rfl | (simp only [packA]; rw [chkON, if_pos (not_nodup hck hc4)]; first | done | rfl) | (simp only [packA]; rw [chkON, if_neg (by simpa using hnd), if_pos (List.any_eq_true.2 ⟨_, List.getElem_mem hck2, by simpa [vioP] using hc6⟩)]; first | done | rfl) | (simp only [packA]; rw [chkON, if_neg (by simpa using hnd), if_neg (by rw [any_false fun j hj => hi1_1 j hj (by omega)]; simp)]; first | done | rfl)) rfl
      · refine W_skip rfl ?_
        refine blkQ_n ?_
        refine thenQ_n ?_
        refine W_reg rfl ?_
        refine Rv rfl rfl rfl (U_add rfl rfl (w64e (m := ((k + 1 : Nat) : Int)) (by omega) (by omega) (by omega))) rfl rfl ?_
        refine Rv rfl rfl rfl (U_move rfl) rfl rfl ?_
        refine Re rfl ?_
        refine thenQ_n ?_
        exact againTo (T' := [(1, .ros (q.map n64) q.length d), (47, .ros (ks.flatMap lkN) ks.length c), (48, i64 ((ks.length : Nat) : Int)), (49, i64 (((k + 1) : Nat) : Int))]) (H' := []) (n := 0) (ks.length - (k + 1)) ⟨k + 1, (by omega), (by intro j hj h; rcases Nat.lt_succ_iff_lt_or_eq.1 h with h | rfl; exact hi1_1 j hj h; simpa [vioP] using hc6), rfl, rfl⟩ (by omega) id ⟨eD rfl rfl, eD rfl rfl, eD rfl rfl, eD rfl rfl, trivial⟩ trivial rfl rfl rfl rfl (fun _ _ => rfl)
    · refine W_exit rfl ?_
      refine thenQ_x ?_
      refine thenQ_x ?_
      refine blkQ_x rfl ?_
      refine thenQ_n ?_
      refine W_seq rfl ?_
      refine W_reg rfl ?_
      refine Rv rfl rfl rfl (U_assign rfl) rfl rfl ?_
      refine Re rfl ?_
      refine thenQ_n ?_
      refine W_ret rfl ?_
      exact retL (rlT rfl rl0) (by first | rfl | (simp only [packA]; rw [chkON, if_pos (not_nodup hck hc4)]; first | done | rfl) | (simp only [packA]; rw [chkON, if_neg (by simpa using hnd), if_pos (List.any_eq_true.2 ⟨_, List.getElem_mem hck2, by simpa [vioP] using hc6⟩)]; first | done | rfl) | (simp only [packA]; rw [chkON, if_neg (by simpa using hnd), if_neg (by rw [any_false fun j hj => hi1_1 j hj (by omega)]; simp)]; first | done | rfl)) rfl
end Go.Proofs.Ythmibifghihdaaa
end

section
namespace Go.Proofs.Ythmibifghihdaaa
set_option maxRecDepth 20000
open Go.AE
theorem within2T_p (m : Nat) (c : Option Nat) (h : 2 ≤ m ∧ m ≤ 10) : Pure Try.prog 56 [i64 2, i64 10, intsA [(m : Int)] c] (.bool true) := withinT_p 2 10 [(m : Int)] c (by simp) (by rw [inL1]; simp; omega)
theorem checkCircle_n (n : Nat) (ks : List (Nat × Nat)) (c : Option Nat) (hv : VB n ks) (h40 : ks.length ≤ 40) (q : List Nat) (d : Option Nat) (hql : q.length ≤ 1000000) (hqn : ∀ x ∈ q, x < n) (hm : 2 ≤ q.length ∧ q.length ≤ 10) : Pure Try.prog 24 [bknA n ks c, natsA q d] (i64 (chkCN ks q)) := by
  have hv' := hv
  obtain ⟨hn1, hn, hkl, hk⟩ := hv'
  have hk2 := vb_lt hv
  refine pure_of_body Try.func24 (c := body Try.f24) rfl (by simp [Try.ntmps24]) fun w0 Φ0 => ?_
  refine W_seq rfl ?_
  refine W_reg rfl ?_
  refine Rv rfl rfl rfl (U_boxF rfl rfl rfl) rfl rfl ?_
  refine Rv rfl rfl rfl (U_assign rfl) rfl rfl ?_
  refine Re rfl ?_
  refine thenQ_n ?_
  refine W_seq rfl ?_
  refine W_reg rfl ?_
  refine Rv rfl rfl rfl (U_load2 rfl rfl rfl rfl) rfl rfl ?_
  refine Rv rfl rfl rfl (U_call rfl rfl (openG_p n ks c hv h40) rfl) rfl rfl ?_
  refine Rv rfl rfl rfl (U_move rfl) rfl rfl ?_
  refine Rv rfl rfl rfl (U_extract rfl rfl) rfl rfl ?_
  refine Rv rfl rfl rfl (U_extract rfl rfl) rfl rfl ?_
  refine Rv rfl rfl rfl (U_assign rfl) rfl rfl ?_
  refine Rv rfl rfl rfl (U_assign rfl) rfl rfl ?_
  refine Re rfl ?_
  refine thenQ_n ?_
  refine W_seq rfl ?_
  refine W_block rfl ?_
  refine W_seq rfl ?_
  refine W_reg rfl ?_
  refine Rv rfl rfl rfl (U_move rfl) rfl rfl ?_
  refine Rv rfl rfl rfl (U_neq rfl rfl) rfl rfl ?_
  refine Rv rfl rfl rfl (U_assign rfl) rfl rfl ?_
  refine Re rfl ?_
  refine thenQ_n ?_
  refine WcondP rfl rfl (fun h => absurd h (by decide)) (fun _ => ?_)
  refine W_seq rfl ?_
  refine W_reg rfl ?_
  refine Rv rfl rfl rfl (U_move rfl) rfl rfl ?_
  refine Rv rfl rfl rfl (U_lenOf rfl len_ros) rfl rfl ?_
  refine Rv rfl rfl rfl (U_buildSliceF (by rfl) (by decide) rfl rfl rfl) rfl rfl ?_
  refine Rv rfl rfl rfl (U_call rfl rfl (within2T_p q.length (some 1) hm) rfl) rfl rfl ?_
  refine Rv rfl rfl rfl (U_not rfl) rfl rfl ?_
  refine Rv rfl rfl rfl (U_assign rfl) rfl rfl ?_
  refine Re rfl ?_
  refine thenQ_n ?_
  refine Wcond rfl rfl (fun h => nomatch h) (fun _ => ?_)
  refine W_seq rfl ?_
  refine W_reg rfl ?_
  refine Rv rfl rfl rfl (U_fieldAddrR rfl) rfl rfl ?_
  refine Rv rfl rfl rfl (U_load1 rfl rfl rfl) rfl rfl ?_
  refine Rv rfl rfl rfl (U_sub rfl rfl (w64 (by omega) (by omega))) rfl rfl ?_
  refine Rv rfl rfl rfl (U_move rfl) rfl rfl ?_
  refine Rv rfl rfl rfl (U_call rfl rfl (withinN_p n q d (by assumption) (by first | assumption | omega | (simp; done) | (simp; omega))) rfl) rfl rfl ?_
  refine Rv rfl rfl rfl (U_not rfl) rfl rfl ?_
  refine Rv rfl rfl rfl (U_assign rfl) rfl rfl ?_
  refine Re rfl ?_
  refine thenQ_n ?_
  refine Wcond rfl rfl (fun h => nomatch h) (fun _ => ?_)
  refine W_skip rfl ?_
  refine blkQ_n ?_
  refine thenQ_n ?_
  refine W_seq rfl ?_
  refine W_reg rfl ?_
  refine Rv rfl rfl rfl (U_move rfl) rfl rfl ?_
  refine Rv rfl rfl rfl (U_move rfl) rfl rfl ?_
  refine Rv rfl rfl rfl (U_lenOf rfl len_ros) rfl rfl ?_
  refine Rv rfl rfl rfl (U_sub rfl rfl (w64e (m := ((q.length - 1 : Nat) : Int)) (by omega) (by omega) (by omega))) rfl rfl ?_
  have hx1 : (q.length - 1) < q.length := by omega
  refine Rv rfl rfl rfl (U_indexR (j := (q.length - 1)) rfl rfl rfl hx1) rfl rfl ?_
  refine Rv rfl rfl rfl (U_load1 rfl rfl (getM hx1)) rfl rfl ?_
  refine Rv rfl rfl rfl (U_assign rfl) rfl rfl ?_
  refine Re rfl ?_
  rw [prvN_0 (show 0 < q.length by omega)]
  refine thenQ_n ?_
  refine W_seq rfl ?_
  refine W_seq rfl ?_
  refine W_reg rfl ?_
  refine Rv rfl rfl rfl (U_move rfl) rfl rfl ?_
  refine Rv rfl rfl rfl (U_lenOf rfl len_ros) rfl rfl ?_
  refine Rv rfl rfl rfl (U_move rfl) rfl rfl ?_
  refine Re rfl ?_
  refine thenQ_n ?_
  refine W_block rfl ?_
  refine LoopTo (T' := [(5, .rop (skC n ks c (seQ ks) (faQ n ks) (briQ n ks)) 0), (7, i64 ((prvN q 0 : Nat) : Int)), (38, .ros (q.map n64) q.length d), (39, i64 ((q.length : Nat) : Int)), (40, i64 ((0 : Nat) : Int))]) (H' := []) (n := 0) rfl (fun mz_ qz_ => ∃ (k : Nat), k ≤ q.length ∧ (∀ j, j < k → (prvN q j, q.getD j 0) ∈ ks) ∧ mz_ = q.length - k ∧ qz_ = ⟨[(5, .rop (skC n ks c (seQ ks) (faQ n ks) (briQ n ks)) 0), (7, i64 ((prvN q k : Nat) : Int)), (38, .ros (q.map n64) q.length d), (39, i64 ((q.length : Nat) : Int)), (40, i64 ((k : Nat) : Int))], [], 0, []⟩) ⟨0, (by omega), (fun j h => absurd h (Nat.not_lt_zero _)), rfl, rfl⟩ id ⟨eD rfl rfl, eD rfl rfl, eD rfl rfl, eD rfl rfl, eD rfl rfl, trivial⟩ trivial rfl rfl rfl rfl (fun _ _ => rfl) ?_
  rintro _ _ ⟨k, hi0_0, hi0_1, rfl, rfl⟩
  refine W_seq rfl ?_
  refine W_reg rfl ?_
  refine Rv rfl rfl rfl (U_lss rfl rfl) rfl rfl ?_
  refine Re rfl ?_
  refine thenQ_n ?_
  refine W_seq rfl ?_
  refine WcondP rfl rfl (fun hc3 => ?_) (fun hc3 => ?_)
  · have hck : k < q.length := by omega
    have hpl := prvN_lt hqn hck
    have hqk := hqn _ (List.getElem_mem hck)
    refine W_skip rfl ?_
    refine thenQ_n ?_
    refine W_seq rfl ?_
    refine W_block rfl ?_
    refine W_seq rfl ?_
    refine W_reg rfl ?_
    have hx2 : k < q.length := by omega
    refine Rv rfl rfl rfl (U_indexR (j := k) rfl rfl rfl hx2) rfl rfl ?_
    refine Rv rfl rfl rfl (U_load1 rfl rfl (getM hx2)) rfl rfl ?_
    refine Rv rfl rfl rfl (U_assign rfl) rfl rfl ?_
    refine Re rfl ?_
    refine thenQ_n ?_
    refine W_seq rfl ?_
    refine W_seq rfl ?_
    refine W_reg rfl ?_
    refine Rv rfl rfl rfl (U_move rfl) rfl rfl ?_
    refine Rv rfl rfl rfl (U_move rfl) rfl rfl ?_
    refine Rv rfl rfl rfl (U_nilCheckR rfl) rfl rfl ?_
    refine Rv rfl rfl rfl (U_fieldAddrR rfl) rfl rfl ?_
    have hx3 : (prvN q k) < 10 := by omega
    refine Rv rfl rfl rfl (U_indexAR (j := (prvN q k)) rfl rfl rfl hx3) rfl rfl ?_
    refine Rv rfl rfl rfl (U_load1 rfl rfl (skG2 hx3)) rfl rfl ?_
    refine Rv rfl rfl rfl (U_move rfl) rfl rfl ?_
    refine Rv rfl rfl rfl (U_shr rfl rfl (by omega) (shrN (n := (seQ ks).g (prvN q k)) (i := q[k]) (R10.lt63 _ _))) rfl rfl ?_
    refine Rv rfl rfl rfl (U_and rfl rfl (andN (a := ((seQ ks).g (prvN q k)) >>> q[k]) (b := 1) (R10.sh63 _ _ _) (by omega))) rfl rfl ?_
    refine Rv rfl rfl rfl (U_eql rfl rfl) rfl rfl ?_
    refine Re rfl ?_
    refine thenQ_n ?_
    refine WcondP rfl rfl (fun hc4 => ?_) (fun hc4 => ?_)
    · have hno : (prvN q k, q.getD k 0) ∉ ks := by rw [getD_eq hck]; have h := bt_0 hc4; rw [se_bt hv] at h; simpa using h
      refine W_seq rfl ?_
      refine W_reg rfl ?_
      refine Rv rfl rfl rfl (U_assign rfl) rfl rfl ?_
      refine Re rfl ?_
      refine thenQ_n ?_
      refine W_ret rfl ?_
      refine thenQ_r ?_
      refine blkQ_r ?_
      refine thenQ_r ?_
      refine thenQ_r ?_
      refine blkQ_r ?_
      refine thenQ_r ?_
      exact retL (rlT rfl rl0) (by first | rfl | (simp only [packA]; rw [chkCN, if_neg (by rw [cirB_F hck hno]; simp)]; first | done | rfl) | (simp only [packA]; rw [chkCN, if_pos (cirB_T fun j hj => hi0_1 j (by omega))]; first | done | rfl)) rfl
    · have hin_ : (prvN q k, q.getD k 0) ∈ ks := by rw [getD_eq hck]; have h := bt_1 hc4; rw [se_bt hv] at h; simpa using h
      refine W_skip rfl ?_
      refine thenQ_n ?_
      refine W_reg rfl ?_
      refine Rv rfl rfl rfl (U_move rfl) rfl rfl ?_
      refine Rv rfl rfl rfl (U_assign rfl) rfl rfl ?_
      refine Re rfl ?_
      refine blkQ_n ?_
      refine thenQ_n ?_
      refine W_reg rfl ?_
      refine Rv rfl rfl rfl (U_add rfl rfl (w64e (m := ((k + 1 : Nat) : Int)) (by omega) (by omega) (by omega))) rfl rfl ?_
      refine Rv rfl rfl rfl (U_move rfl) rfl rfl ?_
      refine Re rfl ?_
      refine thenQ_n ?_
      rw [prvN_S hck]
      exact againTo (T' := [(5, .rop (skC n ks c (seQ ks) (faQ n ks) (briQ n ks)) 0), (7, i64 ((prvN q (k + 1) : Nat) : Int)), (38, .ros (q.map n64) q.length d), (39, i64 ((q.length : Nat) : Int)), (40, i64 (((k + 1) : Nat) : Int))]) (H' := []) (n := 0) (q.length - (k + 1)) ⟨k + 1, (by omega), (by intro j h; rcases Nat.lt_succ_iff_lt_or_eq.1 h with h | rfl; exact hi0_1 j h; exact hin_), rfl, rfl⟩ (by omega) id ⟨eD rfl rfl, eD rfl rfl, eD rfl rfl, eD rfl rfl, eD rfl rfl, trivial⟩ trivial rfl rfl rfl rfl (fun _ _ => rfl)
  · refine W_exit rfl ?_
    refine thenQ_x ?_
    refine thenQ_x ?_
    refine blkQ_x rfl ?_
    refine thenQ_n ?_
    refine W_seq rfl ?_
    refine W_reg rfl ?_
    refine Rv rfl rfl rfl (U_assign rfl) rfl rfl ?_
    refine Re rfl ?_
    refine thenQ_n ?_
    refine W_ret rfl ?_
    exact retL (rlT rfl rl0) (by first | rfl | (simp only [packA]; rw [chkCN, if_neg (by rw [cirB_F hck hno]; simp)]; first | done | rfl) | (simp only [packA]; rw [chkCN, if_pos (cirB_T fun j hj => hi0_1 j (by omega))]; first | done | rfl)) rfl
end Go.Proofs.Ythmibifghihdaaa
end

section
namespace Go.Proofs.Ythmibifghihdaaa
set_option maxRecDepth 20000
open Go.AE
theorem all_in {n : Nat} {q : List Nat} (hn : q.Nodup) (hl : q.length = n) (hq : ∀ x ∈ q, x < n) {x : Nat} (hx : x < n) : x ∈ q := by
  apply Classical.byContradiction
  intro h
  have := nodup_len (l := x :: q) (m := List.range n) (List.nodup_cons.2 ⟨h, hn⟩) fun y hy => by
    rcases List.mem_cons.1 hy with rfl | hy
    · exact List.mem_range.2 hx
    · exact List.mem_range.2 (hq y hy)
  rw [List.length_cons, List.length_range] at this; omega
theorem cirB_iff {ks : List (Nat × Nat)} {q : List Nat} (hq : 1 ≤ q.length) : cirB ks q = true ↔ ∀ i, i < q.length → (q.getD i 0, q.getD ((i + 1) % q.length) 0) ∈ ks := by
  rw [cirB, List.all_eq_true]
  constructor
  · intro h i hi
    by_cases e : i + 1 < q.length
    · have := h (i + 1) (List.mem_range.2 e)
      rw [Nat.mod_eq_of_lt e]
      simpa [prvN] using this
    · have := h 0 (List.mem_range.2 (by omega))
      rw [show i + 1 = q.length by omega, Nat.mod_self]
      rw [show i = q.length - 1 by omega]
      simpa [prvN] using this
  · intro h i hi
    have hi := List.mem_range.1 hi
    rw [decide_eq_true_eq]
    by_cases e : i = 0
    · subst e
      have := h (q.length - 1) (by omega)
      rw [show q.length - 1 + 1 = q.length by omega, Nat.mod_self] at this
      simpa [prvN] using this
    · have := h (i - 1) (by omega)
      rw [show i - 1 + 1 = i by omega, Nat.mod_eq_of_lt hi] at this
      simpa [prvN, e] using this
theorem sta_nat {n x : Nat} (h : x < n) : staB (n : Nat) (x : Nat) = true := by simp [staB]; omega
theorem look_p (n : Nat) (ks : List (Nat × Nat)) (c : Option Nat) (x y : Nat) (hl : ks.length ≤ 1000000) : Pure Try.prog 62 [bknA n ks c, i64 (x : Nat), i64 (y : Nat)] (.bool (decide ((x, y) ∈ ks))) := by
  refine pure_of_body Try.func62 (c := body Try.f62) rfl (by simp [Try.ntmps62]) fun w0 Φ0 => ?_
  refine W_seq rfl ?_
  refine W_reg rfl ?_
  refine Rv rfl rfl rfl (U_boxF rfl rfl rfl) rfl rfl ?_
  refine Rv rfl rfl rfl (U_assign rfl) rfl rfl ?_
  refine Re rfl ?_
  refine thenQ_n ?_
  refine W_seq rfl ?_
  refine W_seq rfl ?_
  refine W_reg rfl ?_
  refine Rv rfl rfl rfl (U_assign rfl) rfl rfl ?_
  refine Re rfl ?_
  refine thenQ_n ?_
  refine W_block rfl ?_
  refine LoopTo (T' := [(1, i64 ((x : Nat) : Int)), (2, i64 ((y : Nat) : Int)), (3, .rop [i64 ((n : Nat) : Int), .ros (ks.flatMap lkN) ks.length c] 0), (7, i64 ((0 : Nat) : Int))]) (H' := []) (n := 0) rfl (fun mz_ qz_ => ∃ (k : Nat), k ≤ ks.length ∧ (∀ j (hj : j < ks.length), j < k → ks[j] ≠ (x, y)) ∧ mz_ = ks.length - k ∧ qz_ = ⟨[(1, i64 ((x : Nat) : Int)), (2, i64 ((y : Nat) : Int)), (3, .rop [i64 ((n : Nat) : Int), .ros (ks.flatMap lkN) ks.length c] 0), (7, i64 ((k : Nat) : Int))], [], 0, []⟩) ⟨0, (by omega), (fun j hj h => absurd h (Nat.not_lt_zero _)), rfl, rfl⟩ id ⟨eD rfl rfl, eD rfl rfl, eD rfl rfl, eD rfl rfl, trivial⟩ trivial rfl rfl rfl rfl (fun _ _ => rfl) ?_
  rintro _ _ ⟨k, hi0_0, hi0_1, rfl, rfl⟩
  refine W_seq rfl ?_
  refine W_seq rfl ?_
  refine W_reg rfl ?_
  refine Rv rfl rfl rfl (U_move rfl) rfl rfl ?_
  refine Rv rfl rfl rfl (U_fieldAddrR rfl) rfl rfl ?_
  refine Rv rfl rfl rfl (U_load1 rfl rfl rfl) rfl rfl ?_
  refine Rv rfl rfl rfl (U_lenOf rfl len_ros) rfl rfl ?_
  refine Rv rfl rfl rfl (U_lss rfl rfl) rfl rfl ?_
  refine Re rfl ?_
  refine thenQ_n ?_
  refine WcondP rfl rfl (fun hc0 => ?_) (fun hc0 => ?_)
  · have hck : k < ks.length := by omega
    refine W_skip rfl ?_
    refine thenQ_n ?_
    refine W_seq rfl ?_
    refine W_block rfl ?_
    refine W_seq rfl ?_
    refine W_reg rfl ?_
    refine Rv rfl rfl rfl (U_fieldAddrR rfl) rfl rfl ?_
    refine Rv rfl rfl rfl (U_load1 rfl rfl rfl) rfl rfl ?_
    refine Rv rfl rfl rfl (U_move rfl) rfl rfl ?_
    have hx1 : k < ks.length := by omega
    refine Rv rfl rfl rfl (U_indexR (j := k) rfl rfl rfl hx1) rfl rfl ?_
    refine Rv rfl rfl rfl (U_load2 rfl rfl (lkH0 hx1) (lkH1 hx1)) rfl rfl ?_
    refine Rv rfl rfl rfl (U_move rfl) rfl rfl ?_
    refine Rv rfl rfl rfl (U_move rfl) rfl rfl ?_
    refine Rv rfl rfl rfl (U_build rfl rfl) rfl rfl ?_
    refine Rv rfl rfl rfl (U_eqlA (p := ((ks[k].1 : Nat) : Int) = ((x : Nat) : Int) ∧ ((ks[k].2 : Nat) : Int) = ((y : Nat) : Int)) rfl rfl rfl rfl rfl rfl (by simp)) rfl rfl ?_
    refine Re rfl ?_
    refine thenQ_n ?_
    refine WcondP rfl rfl (fun hc1 => ?_) (fun hc1 => ?_)
    · have hmem : (x, y) ∈ ks := by have e : ks[k] = (x, y) := Prod.ext (by omega) (by omega); rw [← e]; exact List.getElem_mem hck
      refine W_seq rfl ?_
      refine W_reg rfl ?_
      refine Rv rfl rfl rfl (U_assign rfl) rfl rfl ?_
      refine Re rfl ?_
      refine thenQ_n ?_
      refine W_ret rfl ?_
      refine blkQ_r ?_
      refine thenQ_r ?_
      refine thenQ_r ?_
      refine blkQ_r ?_
      refine thenQ_r ?_
      exact retL (rlT rfl rl0) (by first | rfl | (simp only [packA]; rw [decide_eq_true hmem]; first | done | rfl) | (simp only [packA]; rw [decide_eq_false (fun h => by obtain ⟨j, hj, e⟩ := List.getElem_of_mem h; exact hi0_1 j hj (by omega) e)]; first | done | rfl)) rfl
    · refine W_skip rfl ?_
      refine blkQ_n ?_
      refine thenQ_n ?_
      refine W_reg rfl ?_
      refine Rv rfl rfl rfl (U_move rfl) rfl rfl ?_
      refine Rv rfl rfl rfl (U_add rfl rfl (w64e (m := ((k + 1 : Nat) : Int)) (by omega) (by omega) (by omega))) rfl rfl ?_
      refine Rv rfl rfl rfl (U_assign rfl) rfl rfl ?_
      refine Re rfl ?_
      refine thenQ_n ?_
      exact againTo (T' := [(1, i64 ((x : Nat) : Int)), (2, i64 ((y : Nat) : Int)), (3, .rop [i64 ((n : Nat) : Int), .ros (ks.flatMap lkN) ks.length c] 0), (7, i64 (((k + 1) : Nat) : Int))]) (H' := []) (n := 0) (ks.length - (k + 1)) ⟨k + 1, (by omega), (by intro j hj h; rcases Nat.lt_succ_iff_lt_or_eq.1 h with h | rfl; exact hi0_1 j hj h; exact fun e => hc1 (by rw [e]; exact ⟨rfl, rfl⟩)), rfl, rfl⟩ (by omega) id ⟨eD rfl rfl, eD rfl rfl, eD rfl rfl, eD rfl rfl, trivial⟩ trivial rfl rfl rfl rfl (fun _ _ => rfl)
  · refine W_exit rfl ?_
    refine thenQ_x ?_
    refine thenQ_x ?_
    refine blkQ_x rfl ?_
    refine thenQ_n ?_
    refine W_seq rfl ?_
    refine W_reg rfl ?_
    refine Rv rfl rfl rfl (U_assign rfl) rfl rfl ?_
    refine Re rfl ?_
    refine thenQ_n ?_
    refine W_ret rfl ?_
    exact retL (rlT rfl rl0) (by first | rfl | (simp only [packA]; rw [decide_eq_true hmem]; first | done | rfl) | (simp only [packA]; rw [decide_eq_false (fun h => by obtain ⟨j, hj, e⟩ := List.getElem_of_mem h; exact hi0_1 j hj (by omega) e)]; first | done | rfl)) rfl
theorem checkCircleR_n (n : Nat) (ks : List (Nat × Nat)) (c : Option Nat) (hv : VB n ks) (h40 : ks.length ≤ 40) (q : List Nat) (d : Option Nat) (hql : q.length ≤ 1000000) (hqn : ∀ x ∈ q, x < n) (hm : 2 ≤ q.length ∧ q.length ≤ 10) : Pure Try.prog 25 [bknA n ks c, natsA q d] (i64 (chkCN ks q)) := by
  have hv' := hv
  obtain ⟨hn1, hn, hkl, hk⟩ := hv'
  have hk2 := vb_lt hv
  refine pure_of_body Try.func25 (c := body Try.f25) rfl (by simp [Try.ntmps25]) fun w0 Φ0 => ?_
  refine W_seq rfl ?_
  refine W_reg rfl ?_
  refine Rv rfl rfl rfl (U_boxF rfl rfl rfl) rfl rfl ?_
  refine Rv rfl rfl rfl (U_assign rfl) rfl rfl ?_
  refine Re rfl ?_
  refine thenQ_n ?_
  refine W_seq rfl ?_
  refine W_seq rfl ?_
  refine W_reg rfl ?_
  refine Rv rfl rfl rfl (U_load2 rfl rfl rfl rfl) rfl rfl ?_
  refine Rv rfl rfl rfl (U_call rfl rfl (chkBRG_p n ks c hv h40) rfl) rfl rfl ?_
  refine Rv rfl rfl rfl (U_neq rfl rfl) rfl rfl ?_
  refine Re rfl ?_
  refine thenQ_n ?_
  refine WcondP rfl rfl (fun h => absurd h (by decide)) (fun _ => ?_)
  refine W_skip rfl ?_
  refine thenQ_n ?_
  refine W_seq rfl ?_
  refine W_seq rfl ?_
  refine Wjoin ⟨[(1, .ros (q.map n64) q.length d), (2, .rop [i64 ((n : Nat) : Int), .ros (ks.flatMap lkN) ks.length c] 0), (19, .bool ((decide (((q.length : Nat) : Int) < 2)) || (decide (10 < ((q.length : Nat) : Int)))))], [], 0, []⟩ ?_ ?_
  · refine W_reg rfl ?_
    refine Rv rfl rfl rfl (U_move rfl) rfl rfl ?_
    refine Rv rfl rfl rfl (U_lenOf rfl len_ros) rfl rfl ?_
    refine Rv rfl rfl rfl (U_lss rfl rfl) rfl rfl ?_
    refine Rv rfl rfl rfl (U_move rfl) rfl rfl ?_
    refine Rsplit (t := 15) rfl (fun hg1 => ?_) (fun hg1 => ?_)
    · rw [hg1]
      have hg1' : ((q.length : Nat) : Int) < 2 := of_decide_eq_true hg1
      refine Rs rfl rfl rfl rfl rfl ?_
      refine Rs rfl rfl rfl rfl rfl ?_
      refine Rs rfl rfl rfl rfl rfl ?_
      refine Rv rfl rfl rfl (U_pick_t rfl rfl) rfl rfl ?_
      refine Re rfl ?_
      exact joinTo id ⟨eD rfl rfl, eD rfl rfl, eD rfl rfl, trivial⟩ trivial rfl rfl rfl rfl (fun _ _ => rfl)
    · rw [hg1]
      have hg1' : ¬ (((q.length : Nat) : Int) < 2) := of_decide_eq_false hg1
      refine Rv rfl rfl rfl (U_move rfl) rfl rfl ?_
      refine Rv rfl rfl rfl (U_lenOf rfl len_ros) rfl rfl ?_
      refine Rv rfl rfl rfl (U_gtr rfl rfl) rfl rfl ?_
      refine Rv rfl rfl rfl (U_pick_f rfl rfl) rfl rfl ?_
      refine Re rfl ?_
      exact joinTo id ⟨eD rfl rfl, eD rfl rfl, eD rfl rfl, trivial⟩ trivial rfl rfl rfl rfl (fun _ _ => rfl)
  refine thenQ_n ?_
  refine Wcond rfl rfl (fun hc1 => absurd hc1 (by simp; omega)) (fun hc1 => ?_)
  refine W_skip rfl ?_
  refine thenQ_n ?_
  refine W_seq rfl ?_
  refine W_seq rfl ?_
  refine W_reg rfl ?_
  refine Rv rfl rfl rfl (U_assign rfl) rfl rfl ?_
  refine Re rfl ?_
  refine thenQ_n ?_
  refine W_block rfl ?_
  refine LoopTo (T' := [(1, .ros (q.map n64) q.length d), (2, .rop [i64 ((n : Nat) : Int), .ros (ks.flatMap lkN) ks.length c] 0), (5, i64 ((0 : Nat) : Int))]) (H' := []) (n := 0) rfl (fun mz_ qz_ => ∃ (k : Nat), k ≤ q.length ∧ mz_ = q.length - k ∧ qz_ = ⟨[(1, .ros (q.map n64) q.length d), (2, .rop [i64 ((n : Nat) : Int), .ros (ks.flatMap lkN) ks.length c] 0), (5, i64 ((k : Nat) : Int))], [], 0, []⟩) ⟨0, (by omega), rfl, rfl⟩ id ⟨eD rfl rfl, eD rfl rfl, eD rfl rfl, trivial⟩ trivial rfl rfl rfl rfl (fun _ _ => rfl) ?_
  rintro _ _ ⟨k, hi0_0, rfl, rfl⟩
  refine W_seq rfl ?_
  refine W_seq rfl ?_
  refine W_reg rfl ?_
  refine Rv rfl rfl rfl (U_move rfl) rfl rfl ?_
  refine Rv rfl rfl rfl (U_move rfl) rfl rfl ?_
  refine Rv rfl rfl rfl (U_lenOf rfl len_ros) rfl rfl ?_
  refine Rv rfl rfl rfl (U_lss rfl rfl) rfl rfl ?_
  refine Re rfl ?_
  refine thenQ_n ?_
  refine WcondP rfl rfl (fun hc2 => ?_) (fun hc2 => ?_)
  · have hck : k < q.length := by omega
    have hqk := hqn _ (List.getElem_mem hck)
    refine W_skip rfl ?_
    refine thenQ_n ?_
    refine W_seq rfl ?_
    refine W_block rfl ?_
    refine W_seq rfl ?_
    refine Wdraw rfl (by kernel_rfl) (by kernel_rfl) ?_
    refine Dv rfl rfl rfl (U_load2 rfl rfl rfl rfl) rfl rfl ?_
    refine Dv rfl rfl rfl (U_move rfl) rfl rfl ?_
    refine Dv rfl rfl rfl (U_move rfl) rfl rfl ?_
    have hx2 : k < q.length := by omega
    refine Dv rfl rfl rfl (U_indexR (j := k) rfl rfl rfl hx2) rfl rfl ?_
    refine Dv rfl rfl rfl (U_load1 rfl rfl (getM hx2)) rfl rfl ?_
    refine Dv rfl rfl rfl (U_call rfl rfl (isStarG_p n ks c ((q[k] : Nat) : Int)) rfl) rfl rfl ?_
    refine Dv rfl rfl rfl (U_not rfl) rfl rfl ?_
    refine Dr.nil rfl ?_
    refine thenQ_n ?_
    refine Wcond rfl rfl (fun hc3 => absurd hc3 (by rw [sta_nat hqk]; simp)) (fun hc3 => ?_)
    refine W_skip rfl ?_
    refine blkQ_n ?_
    refine thenQ_n ?_
    refine W_reg rfl ?_
    refine Rv rfl rfl rfl (U_move rfl) rfl rfl ?_
    refine Rv rfl rfl rfl (U_add rfl rfl (w64e (m := ((k + 1 : Nat) : Int)) (by omega) (by omega) (by omega))) rfl rfl ?_
    refine Rv rfl rfl rfl (U_assign rfl) rfl rfl ?_
    refine Re rfl ?_
    refine thenQ_n ?_
    exact againTo (T' := [(1, .ros (q.map n64) q.length d), (2, .rop [i64 ((n : Nat) : Int), .ros (ks.flatMap lkN) ks.length c] 0), (5, i64 (((k + 1) : Nat) : Int))]) (H' := []) (n := 0) (q.length - (k + 1)) ⟨k + 1, (by omega), rfl, rfl⟩ (by omega) id ⟨eD rfl rfl, eD rfl rfl, eD rfl rfl, trivial⟩ trivial rfl rfl rfl rfl (fun _ _ => rfl)
  · refine W_exit rfl ?_
    refine thenQ_x ?_
    refine thenQ_x ?_
    refine blkQ_x rfl ?_
    refine thenQ_n ?_
    refine W_seq rfl ?_
    refine W_seq rfl ?_
    refine W_reg rfl ?_
    refine Rv rfl rfl rfl (U_assign rfl) rfl rfl ?_
    refine Re rfl ?_
    refine thenQ_n ?_
    refine W_block rfl ?_
    refine LoopTo (T' := [(1, .ros (q.map n64) q.length d), (2, .rop [i64 ((n : Nat) : Int), .ros (ks.flatMap lkN) ks.length c] 0), (6, i64 ((0 : Nat) : Int))]) (H' := []) (n := 0) rfl (fun mz_ qz_ => ∃ (i : Nat), i ≤ q.length ∧ (∀ j, j < i → (q.getD j 0, q.getD ((j + 1) % q.length) 0) ∈ ks) ∧ mz_ = q.length - i ∧ qz_ = ⟨[(1, .ros (q.map n64) q.length d), (2, .rop [i64 ((n : Nat) : Int), .ros (ks.flatMap lkN) ks.length c] 0), (6, i64 ((i : Nat) : Int))], [], 0, []⟩) ⟨0, (by omega), (fun j h => absurd h (Nat.not_lt_zero _)), rfl, rfl⟩ id ⟨eD rfl rfl, eD rfl rfl, eD rfl rfl, trivial⟩ trivial rfl rfl rfl rfl (fun _ _ => rfl) ?_
    rintro _ _ ⟨i, hi1_0, hi1_1, rfl, rfl⟩
    refine W_seq rfl ?_
    refine W_seq rfl ?_
    refine W_reg rfl ?_
    refine Rv rfl rfl rfl (U_move rfl) rfl rfl ?_
    refine Rv rfl rfl rfl (U_move rfl) rfl rfl ?_
    refine Rv rfl rfl rfl (U_lenOf rfl len_ros) rfl rfl ?_
    refine Rv rfl rfl rfl (U_lss rfl rfl) rfl rfl ?_
    refine Re rfl ?_
    refine thenQ_n ?_
    refine WcondP rfl rfl (fun hc4 => ?_) (fun hc4 => ?_)
    · have hci : i < q.length := by omega
      have hci2 : (i + 1) % q.length < q.length := Nat.mod_lt _ (by omega)
      refine W_skip rfl ?_
      refine thenQ_n ?_
      refine W_seq rfl ?_
      refine W_block rfl ?_
      refine W_seq rfl ?_
      refine Wdraw rfl (by kernel_rfl) (by kernel_rfl) ?_
      refine Dv rfl rfl rfl (U_load2 rfl rfl rfl rfl) rfl rfl ?_
      refine Dv rfl rfl rfl (U_move rfl) rfl rfl ?_
      refine Dv rfl rfl rfl (U_move rfl) rfl rfl ?_
      have hx3 : i < q.length := by omega
      refine Dv rfl rfl rfl (U_indexR (j := i) rfl rfl rfl hx3) rfl rfl ?_
      refine Dv rfl rfl rfl (U_load1 rfl rfl (getM hx3)) rfl rfl ?_
      refine Dv rfl rfl rfl (U_move rfl) rfl rfl ?_
      refine Dv rfl rfl rfl (U_move rfl) rfl rfl ?_
      refine Dv rfl rfl rfl (U_add rfl rfl (w64e (m := ((i + 1 : Nat) : Int)) (by omega) (by omega) (by omega))) rfl rfl ?_
      refine Dv rfl rfl rfl (U_move rfl) rfl rfl ?_
      refine Dv rfl rfl rfl (U_lenOf rfl len_ros) rfl rfl ?_
      refine Dv rfl rfl rfl (U_rem (c := (((i + 1) % q.length : Nat) : Int)) rfl rfl (by omega) (tmodN _ _)) rfl rfl ?_
      have hx4 : ((i + 1) % q.length) < q.length := by omega
      refine Dv rfl rfl rfl (U_indexR (j := ((i + 1) % q.length)) rfl rfl rfl hx4) rfl rfl ?_
      refine Dv rfl rfl rfl (U_load1 rfl rfl (getM hx4)) rfl rfl ?_
      refine Dv rfl rfl rfl (U_call rfl rfl (look_p n ks c q[i] q[((i + 1) % q.length)] (by first | assumption | omega)) rfl) rfl rfl ?_
      refine Dv rfl rfl rfl (U_not rfl) rfl rfl ?_
      refine Dr.nil rfl ?_
      refine thenQ_n ?_
      refine Wcond rfl rfl (fun hc5 => ?_) (fun hc5 => ?_)
      · refine W_seq rfl ?_
        refine W_reg rfl ?_
        refine Rv rfl rfl rfl (U_assign rfl) rfl rfl ?_
        refine Re rfl ?_
        refine thenQ_n ?_
        refine W_ret rfl ?_
        refine blkQ_r ?_
        refine thenQ_r ?_
        refine thenQ_r ?_
        refine blkQ_r ?_
        refine thenQ_r ?_
        exact retL (rlT rfl rl0) (by first | rfl | (simp only [packA]; rw [chkCN, if_neg fun h => by have := (cirB_iff (by omega)).1 h i hci; rw [getD_eq hci, getD_eq hci2] at this; simp [this] at hc5]; first | done | rfl) | (simp only [packA]; rw [chkCN, if_pos ((cirB_iff (by omega)).2 fun j hj => hi1_1 j (by omega))]; first | done | rfl)) rfl
      · have hc5' := Bool.eq_false_iff.1 hc5
        refine W_skip rfl ?_
        refine blkQ_n ?_
        refine thenQ_n ?_
        refine W_reg rfl ?_
        refine Rv rfl rfl rfl (U_move rfl) rfl rfl ?_
        refine Rv rfl rfl rfl (U_add rfl rfl (w64e (m := ((i + 1 : Nat) : Int)) (by omega) (by omega) (by omega))) rfl rfl ?_
        refine Rv rfl rfl rfl (U_assign rfl) rfl rfl ?_
        refine Re rfl ?_
        refine thenQ_n ?_
        exact againTo (T' := [(1, .ros (q.map n64) q.length d), (2, .rop [i64 ((n : Nat) : Int), .ros (ks.flatMap lkN) ks.length c] 0), (6, i64 (((i + 1) : Nat) : Int))]) (H' := []) (n := 0) (q.length - (i + 1)) ⟨i + 1, (by omega), (by intro j h; rcases Nat.lt_succ_iff_lt_or_eq.1 h with h | rfl; exact hi1_1 j h; rw [getD_eq hci, getD_eq hci2]; simpa using hc5), rfl, rfl⟩ (by omega) id ⟨eD rfl rfl, eD rfl rfl, eD rfl rfl, trivial⟩ trivial rfl rfl rfl rfl (fun _ _ => rfl)
    · refine W_exit rfl ?_
      refine thenQ_x ?_
      refine thenQ_x ?_
      refine blkQ_x rfl ?_
      refine thenQ_n ?_
      refine W_seq rfl ?_
      refine W_reg rfl ?_
      refine Rv rfl rfl rfl (U_assign rfl) rfl rfl ?_
      refine Re rfl ?_
      refine thenQ_n ?_
      refine W_ret rfl ?_
      exact retL (rlT rfl rl0) (by first | rfl | (simp only [packA]; rw [chkCN, if_neg fun h => by have := (cirB_iff (by omega)).1 h i hci; rw [getD_eq hci, getD_eq hci2] at this; simp [this] at hc5]; first | done | rfl) | (simp only [packA]; rw [chkCN, if_pos ((cirB_iff (by omega)).2 fun j hj => hi1_1 j (by omega))]; first | done | rfl)) rfl
end Go.Proofs.Ythmibifghihdaaa
end

section
namespace Go.Proofs.Ythmibifghihdaaa
set_option maxRecDepth 20000
open Go.AE
def bfL (n : Nat) (ks : List (Nat × Nat)) : List Nat := ks.foldl (fun o p => o.set p.2 (o.getD p.2 0 ||| 1 <<< p.1)) (List.replicate n 0)
section
variable {n : Nat} {ks : List (Nat × Nat)}
def bfN (n : Nat) (ks : List (Nat × Nat)) (a : Nat) : Nat := (bfL n ks).getD a 0
theorem bf_tb : ∀ (ks : List (Nat × Nat)) (o : List Nat), (∀ p ∈ ks, p.1 < 10 ∧ p.2 < o.length) → ∀ {a b : Nat}, ((ks.foldl (fun o p => o.set p.2 (o.getD p.2 0 ||| 1 <<< p.1)) o).getD a 0).testBit b = ((o.getD a 0).testBit b || decide ((b, a) ∈ ks))
  | [], o, _, a, b => by simp
  | p :: ks, o, h, a, b => by
    have hp := h p (by simp)
    rw [List.foldl_cons, bf_tb ks _ fun q hq => by rw [List.length_set]; exact h q (by simp [hq])]
    have e : (o.set p.2 (o.getD p.2 0 ||| 1 <<< p.1)).getD a 0 = if a = p.2 then o.getD p.2 0 ||| 1 <<< p.1 else o.getD a 0 := by
      simp only [List.getD_eq_getElem?_getD, List.getElem?_set]
      by_cases e : a = p.2
      · subst e; simp [hp.2]
      · rw [if_neg fun h => e h.symm, if_neg e]
    rw [e]
    split
    · rename_i e2
      subst e2
      rw [Nat.testBit_or, one_tb]
      by_cases e3 : p.1 = b
      · subst e3; simp
      · have : (b, p.2) ≠ p := fun e => e3 (by rw [← e])
        simp [e3, List.mem_cons, this]
    · rename_i e2
      have : (b, a) ≠ p := fun e => e2 (by rw [← e])
      simp [List.mem_cons, this]
theorem bfN_tb (hv : VB n ks) (a x : Nat) : (bfN n ks a).testBit x = true ↔ (x, a) ∈ ks := by
  rw [bfN, bfL, bf_tb ks _ fun p hp => by rw [List.length_replicate]; exact ⟨(vb10 hv p hp).1, (hv.2.2.2 p hp).2.1⟩]
  have : (List.replicate n 0).getD a 0 = 0 := by
    rw [List.getD_eq_getElem?_getD, List.getElem?_replicate]; split <;> rfl
  rw [this]; simp
abbrev nxQ (n : Nat) (ks : List (Nat × Nat)) : Nat → Nat → Bool := nxR (bfN n ks)
end
section
variable {n : Nat} {nx : Nat → Nat → Bool}
end
end Go.Proofs.Ythmibifghihdaaa
end

section
namespace Go.Proofs.Ythmibifghihdaaa
set_option maxRecDepth 20000
open Go.AE
section
variable {n : Nat} {ks : List (Nat × Nat)}
theorem sum_nz {f : Nat → Nat} {l : List Nat} (h : (l.map f).sum ≠ 0) : ∃ a ∈ l, f a ≠ 0 := by
  induction l with
  | nil => simp at h
  | cons x l ih =>
    rw [List.map_cons, List.sum_cons] at h
    by_cases e : f x = 0
    · obtain ⟨a, h1, h2⟩ := ih (by omega)
      exact ⟨a, by simp [h1], h2⟩
    · exact ⟨x, by simp, e⟩
theorem up_nz {nx : Nat → Nat → Bool} {m : Nat} (hm : m < 2 ^ n) (h0 : m ≠ 0) (h : up n nx m ≠ 0) : ∃ a, a < n ∧ m.testBit a = true ∧ nx (rm m a) a = true ∧ up n nx (rm m a) ≠ 0 := by
  rw [up_eq hm h0] at h
  obtain ⟨a, ha, h2⟩ := sum_nz h
  split at h2
  · rename_i h3
    simp only [upN, Bool.and_eq_true] at h3
    exact ⟨a, List.mem_range.1 ha, h3.1, h3.2, h2⟩
  · exact absurd rfl h2
theorem up_acy (hv : VB n ks) : ∀ (k m : Nat), cntN n m = k → m < 2 ^ n → up n (nxB (briQ n ks)) m ≠ 0 → ∀ b, m.testBit b = true → ¬ Pth ks b b
  | 0, m, h, hm, _, b, hb => by
    have := cnt_pos hm (fun e => by rw [e] at hb; simp at hb); omega
  | k + 1, m, h, hm, hu, b, hb => by
    obtain ⟨a, ha, h1, h2, h3⟩ := up_nz hm (fun e => by rw [e] at hb; simp at hb) hu
    have h4 := cnt_rm ha h1
    have h5 := rm_lt h1
    intro hp
    by_cases e : b = a
    · subst e
      have := ((nxB_iff hv).1 h2).2 b hp
      rw [rm_self h1] at this; cases this
    · refine up_acy hv k (rm m a) (by omega) (by omega) h3 b ?_ hp
      rw [rm_tb, hb]; simp [show ¬ a = b from fun h => e h.symm]
theorem last_from (hv : VB n ks) (ha : Acy n ks) (m : Nat) : ∀ (k a : Nat), a < n → m.testBit a = true → ((List.range n).countP fun x => m.testBit x && ((faQ n ks).g a).testBit x) ≤ k → ∃ b, b < n ∧ m.testBit b = true ∧ ∀ x, m.testBit x = true → ¬ Pth ks b x := by
  intro k
  induction k with
  | zero =>
    intro a han hma h
    refine ⟨a, han, hma, fun x hx hp => ?_⟩
    have h0 : ((List.range n).countP fun x => m.testBit x && ((faQ n ks).g a).testBit x) = 0 := by omega
    rw [List.countP_eq_zero] at h0
    exact h0 x (List.mem_range.2 (pth_in hv hp).2) (by rw [hx, (faQ_tb hv).2 hp]; rfl)
  | succ k ih =>
    intro a han hma h
    by_cases hex : ∃ x, m.testBit x = true ∧ Pth ks a x
    · obtain ⟨x, hmx, hp⟩ := hex
      have hx := (pth_in hv hp).2
      refine ih x hx hmx ?_
      have := cnt_more (p := fun y => m.testBit y && ((faQ n ks).g x).testBit y) (q := fun y => m.testBit y && ((faQ n ks).g a).testBit y) (List.range n) (fun y _ hy => by
        simp only [Bool.and_eq_true] at hy ⊢
        exact ⟨hy.1, (faQ_tb hv).2 (hp.trans ((faQ_tb hv).1 hy.2))⟩) ⟨x, List.mem_range.2 hx, by
          have : ((faQ n ks).g x).testBit x = false := by
            cases e : ((faQ n ks).g x).testBit x with
            | false => rfl
            | true => exact absurd ((faQ_tb hv).1 e) (acy_pth hv ha)
          simp [this], by simp [hmx, (faQ_tb hv).2 hp]⟩
      omega
    · exact ⟨a, han, hma, fun x hx hp => hex ⟨x, hx, hp⟩⟩
theorem up_pos (hv : VB n ks) (ha : Acy n ks) : ∀ (k m : Nat), cntN n m = k → m < 2 ^ n → DC ks m → 0 < up n (nxB (briQ n ks)) m
  | 0, m, h, hm, _ => by
    have e : m = 0 := by
      rcases Nat.eq_zero_or_pos m with e | e
      · exact e
      · have := cnt_pos hm (by omega); omega
    subst e; rw [up_0]; omega
  | k + 1, m, h, hm, hd => by
    by_cases e : m = 0
    · subst e; rw [up_0]; omega
    · obtain ⟨b, hb⟩ := Nat.exists_testBit_of_ne_zero e
      obtain ⟨a, han, hma, hl⟩ := last_from hv ha m _ b (tb_in hm hb) hb (Nat.le_refl _)
      have h4 := cnt_rm han hma
      have h5 := rm_lt hma
      have hdr : DC ks (rm m a) := fun p hp h2 => by
        rw [rm_tb] at h2 ⊢
        by_cases e2 : a = p.2
        · subst e2; rw [hma] at h2; simp at h2
        · have h3 : m.testBit p.2 = true := by simpa [e2] using h2
          have h6 := hd p hp h3
          have e3 : a ≠ p.1 := fun e3 => hl p.2 h3 (.one (by rw [e3]; exact hp))
          simp [h6, e3]
      have hnx : nxB (briQ n ks) (rm m a) a = true := (nxB_iff hv).2 ⟨rm_self hma, fun x hx => by
        rw [rm_tb, dc_pth hd hx hma]
        have : a ≠ x := fun e => by subst e; exact acy_pth hv ha hx
        simp [this]⟩
      rw [up_eq hm e]
      refine sum_pos (List.mem_range.2 han) ?_
      rw [if_pos (by simp [upN, hma, hnx])]
      exact up_pos hv ha k _ (by omega) (by omega) hdr
theorem cnt_acy (hv : VB n ks) (ha : Acy n ks) : 0 < cntQ n ks := up_pos hv ha _ _ rfl full_lt (dc_full hv)
theorem cnt_cyc (hv : VB n ks) {g : Nat} (hg : Cyc n ks g) : cntQ n ks = 0 := by
  apply Classical.byContradiction
  intro h
  exact up_acy hv _ _ rfl full_lt h g (by rw [full_tb]; simpa using hg.1) ((faQ_tb hv).1 (by rw [← bt_eq]; exact hg.2.1))
theorem cnt_pos_iff (hv : VB n ks) : 0 < cntQ n ks ↔ Acy n ks := by
  constructor
  · intro h
    rcases acy_or n ks with h2 | ⟨g, h2⟩
    · exact h2
    · rw [cnt_cyc hv h2] at h; omega
  · exact cnt_acy hv
theorem cnt_R (hv : VB n ks) : up n (nxQ n ks) (full n) = cntQ n ks := (up_same hv (bfN_tb hv) _ (full n) rfl full_lt).symm
end
end Go.Proofs.Ythmibifghihdaaa
end

section
namespace Go.Proofs.Ythmibifghihdaaa
set_option maxRecDepth 20000
open Go.AE
def plc (o : List Nat) (x : Nat) : Int := idxI (fun y => decide (x = y)) o
def prtB (x y : Nat) (o : List Nat) : Bool := decide (plc o x < plc o y)
def prt (L : List (List Nat)) (x y : Nat) : List (List Nat) := L.filter (prtB x y)
theorem plc_le {o : List Nat} {x : Nat} : -1 ≤ plc o x := by
  unfold plc idxI; split <;> omega
end Go.Proofs.Ythmibifghihdaaa
end

section
namespace Go.Proofs.Ythmibifghihdaaa
set_option maxRecDepth 20000
open Go.AE
def nedQ (l : Nat) : Nat := ((List.range l).filter fun j => decide (1 <<< j < l)).length
theorem ned_is {l k : Nat} (h1 : ∀ j, j < k → 1 <<< j < l) (h2 : ¬ 1 <<< k < l) : nedQ l = k := by
  have hk : k ≤ l := by
    rcases Nat.eq_zero_or_pos k with rfl | hp
    · omega
    · have := h1 (k - 1) (by omega)
      rw [one_shl] at this
      have := Nat.lt_two_pow_self (n := k - 1)
      omega
  have h3 : ((List.range l).filter fun j => decide (1 <<< j < l)) = List.range k := by
    obtain ⟨d, rfl⟩ : ∃ d, l = k + d := ⟨l - k, by omega⟩
    rw [List.range_add, List.filter_append]
    have e1 : (List.range k).filter (fun j => decide (1 <<< j < k + d)) = List.range k := by
      rw [List.filter_eq_self]
      intro j hj
      exact decide_eq_true (h1 j (List.mem_range.1 hj))
    have e2 : (List.map (fun x => k + x) (List.range d)).filter (fun j => decide (1 <<< j < k + d)) = [] := by
      rw [List.filter_eq_nil_iff]
      intro j hj
      obtain ⟨x, _, rfl⟩ := List.mem_map.1 hj
      have h4 : 2 ^ k ≤ 2 ^ (k + x) := Nat.pow_le_pow_right (by decide) (by omega)
      rw [one_shl] at h2
      simp [one_shl]; omega
    rw [e1, e2, List.append_nil]
  rw [nedQ, h3, List.length_range]
def dpS (D : List (List Nat) → Nat) (L : List (List Nat)) (bs : Nat) (p : Nat × Nat) : Nat := if nedQ L.length < bs ∧ 0 < (prt L p.1 p.2).length ∧ 0 < (prt L p.2 p.1).length then min bs (1 + max (D (prt L p.1 p.2)) (D (prt L p.2 p.1))) else bs
def dpI (L : List (List Nat)) : Nat := if nedQ L.length = 0 then 0 else 100
def dpB (D : List (List Nat) → Nat) (L : List (List Nat)) (ps : List (Nat × Nat)) : Nat := ps.foldl (dpS D L) (dpI L)
def dpF (n : Nat) : Nat → List (List Nat) → Nat
  | 0 => fun _ => 0
  | f + 1 => fun L => dpB (dpF n f) L (prQ n)
theorem dpS_le {D : List (List Nat) → Nat} {L : List (List Nat)} {bs : Nat} {p : Nat × Nat} : dpS D L bs p ≤ bs := by
  unfold dpS; split <;> omega
theorem prt_two {L : List (List Nat)} {x y : Nat} : (prt L x y).length + (prt L y x).length ≤ L.length := by
  unfold prt
  induction L with
  | nil => simp
  | cons o L ih =>
    simp only [List.filter_cons, List.length_cons]
    have : ¬ (prtB x y o = true ∧ prtB y x o = true) := by simp [prtB]; omega
    split <;> split <;> simp_all <;> omega
theorem prt_sub {L : List (List Nat)} {x y : Nat} {o : List Nat} (h : o ∈ prt L x y) : o ∈ L := (List.mem_filter.1 h).1
end Go.Proofs.Ythmibifghihdaaa
end

section
namespace Go.Proofs.Ythmibifghihdaaa
set_option maxRecDepth 20000
open Go.AE
def nxtK (n : Nat) (o : List Nat) (s : Nat) : List (List Nat) := ((List.range s).filter fun a => decide (plc o a < 0)).map fun a => o ++ [a]
def arr (n : Nat) : Nat → List (List Nat)
  | 0 => [[]]
  | k + 1 => (arr n k).flatMap fun o => nxtK n o n
theorem arr_all : ((List.range 5).all fun n => (List.range (n + 1)).all fun k => decide ((arr n k).length ≤ 24) && decide (0 < (arr n k).length) && (arr n k).all fun o => decide (o.length = k) && o.all fun x => decide (x < n)) = true := by decide +kernel
theorem arr_ok {n k : Nat} (hn : n ≤ 4) (hk : k ≤ n) : (arr n k).length ≤ 24 ∧ 0 < (arr n k).length ∧ ∀ o ∈ arr n k, o.length = k ∧ ∀ x ∈ o, x < n := by
  have h1 := List.all_eq_true.1 (List.all_eq_true.1 arr_all n (List.mem_range.2 (by omega))) k (List.mem_range.2 (by omega))
  simp only [Bool.and_eq_true, decide_eq_true_eq, List.all_eq_true] at h1
  exact ⟨h1.1.1, h1.1.2, fun o ho => h1.2 o ho⟩
def ordB (ks : List (Nat × Nat)) (o : List Nat) : Bool := decide (chkON ks o = 0)
def ords (n : Nat) (ks : List (Nat × Nat)) : List (List Nat) := (arr n n).filter (ordB ks)
end Go.Proofs.Ythmibifghihdaaa
end

section
namespace Go.Proofs.Ythmibifghihdaaa
set_option maxRecDepth 20000
open Go.AE
theorem ords_in {n : Nat} {ks : List (Nat × Nat)} (hn : n ≤ 4) : (ords n ks).length ≤ 24 ∧ ∀ o ∈ ords n ks, o.length = n ∧ ∀ x ∈ o, x < n := by
  have h := arr_ok hn (Nat.le_refl n)
  have h2 := List.length_filter_le (ordB ks) (arr n n)
  refine ⟨by unfold ords; omega, fun o ho => h.2.2 o (List.mem_filter.1 ho).1⟩
abbrev dpQ (n : Nat) (L : List (List Nat)) : Nat := dpF n 24 L
theorem prt_len {L : List (List Nat)} {x y : Nat} : (prt L x y).length ≤ L.length := List.length_filter_le _ _
def gudP (D : List (List Nat) → Nat) (L : List (List Nat)) (p : Nat × Nat) : Bool := decide (D (prt L p.1 p.2) < D L) && decide (D (prt L p.2 p.1) < D L)
def nxtE : Option (Nat × Nat) → Int
  | none => 5
  | some _ => 0
abbrev nxtA (o : Option (Nat × Nat)) : AV := .tup [i64 ((o.getD (0, 0)).1 : Nat), i64 ((o.getD (0, 0)).2 : Nat), i64 (nxtE o)]
end Go.Proofs.Ythmibifghihdaaa
end

section
namespace Go.Proofs.Ythmibifghihdaaa
set_option maxRecDepth 20000
open Go.AE
section
variable {n : Nat} {nx : Nat → Nat → Bool}
def ulC (n : Nat) (nx : Nat → Nat → Bool) : Nat → Nat → List (List Nat)
  | 0, m => if m = 0 then [[]] else []
  | f + 1, m => if m = 0 then [[]] else (List.range n).flatMap fun a => if upN n nx m a = true then (ulC n nx f (rm m a)).map (· ++ [a]) else []
theorem ulC_len : ∀ (f m : Nat), (ulC n nx f m).length = upC n nx f m
  | 0, m => by unfold ulC upC; split <;> rfl
  | f + 1, m => by
    unfold ulC upC
    split
    · rfl
    · rw [List.length_flatMap]
      refine sum_congr fun a _ => ?_
      split
      · rw [List.length_map, ulC_len f]
      · rfl
def stO : List Nat → Nat
  | [] => 0
  | a :: o => ad (stO o) a
theorem stO_tb {o : List Nat} {b : Nat} : (stO o).testBit b = true ↔ b ∈ o := by
  induction o with
  | nil => simp [stO]
  | cons a o ih =>
    rw [stO, ad_tb, Bool.or_eq_true, ih, decide_eq_true_eq, List.mem_cons]
    constructor
    · rintro (h | h)
      · exact .inr h
      · exact .inl h.symm
    · rintro (h | h)
      · exact .inr h.symm
      · exact .inl h
theorem stO_app {o : List Nat} {a : Nat} : stO (o ++ [a]) = ad (stO o) a := by
  apply Nat.eq_of_testBit_eq; intro b
  rw [Bool.eq_iff_iff, stO_tb, ad_tb, Bool.or_eq_true, stO_tb, decide_eq_true_eq, List.mem_append, List.mem_singleton]
  constructor
  · rintro (h | h)
    · exact .inl h
    · exact .inr h.symm
  · rintro (h | h)
    · exact .inl h
    · exact .inr h.symm
theorem stO_lt {o : List Nat} (h : ∀ x ∈ o, x < n) : stO o < 2 ^ n := by
  induction o with
  | nil => exact Nat.two_pow_pos n
  | cons a o ih => exact ad_lt (ih fun x hx => h x (by simp [hx])) (h a (by simp))
def Fwd (n : Nat) (nx : Nat → Nat → Bool) (m : Nat) : List Nat → Prop
  | [] => True
  | a :: o => a < n ∧ nx m a = true ∧ Fwd n nx (ad m a) o
theorem fwd_app : ∀ {o p : List Nat} {m : Nat}, Fwd n nx m (o ++ p) ↔ Fwd n nx m o ∧ Fwd n nx (m ||| stO o) p
  | [], p, m => by simp [Fwd, stO]
  | a :: o, p, m => by
    show (a < n ∧ nx m a = true ∧ Fwd n nx (ad m a) (o ++ p)) ↔ _
    rw [fwd_app]
    have e : ad m a ||| stO o = m ||| stO (a :: o) := by
      show (m ||| 1 <<< a) ||| stO o = m ||| (stO o ||| 1 <<< a)
      rw [Nat.or_assoc, Nat.or_comm (1 <<< a)]
    rw [e]
    constructor
    · rintro ⟨h1, h2, h3, h4⟩; exact ⟨⟨h1, h2, h3⟩, h4⟩
    · rintro ⟨⟨h1, h2, h3⟩, h4⟩; exact ⟨h1, h2, h3, h4⟩
theorem cnt_set {o : List Nat} (hn : o.Nodup) (h : ∀ x ∈ o, x < n) : cntN n (stO o) = o.length := by
  induction o with
  | nil => simp [stO, cntN]
  | cons a o ih =>
    obtain ⟨h1, h2⟩ := List.nodup_cons.1 hn
    have h3 : (stO o).testBit a = false := by
      cases e : (stO o).testBit a with
      | false => rfl
      | true => exact absurd (stO_tb.1 e) h1
    rw [stO, cnt_ad (h a (by simp)) h3, ih h2 fun x hx => h x (by simp [hx]), List.length_cons]
theorem ulC_mem (hx : Nxt nx) : ∀ (f m : Nat) (o : List Nat), m < 2 ^ n → cntN n m ≤ f → (o ∈ ulC n nx f m ↔ Fwd n nx 0 o ∧ stO o = m)
  | 0, m, o, hm, hf => by
    have h0 : m = 0 := by
      apply Classical.byContradiction
      intro h; have := cnt_pos hm h; omega
    subst h0
    simp only [ulC, if_true, List.mem_singleton]
    constructor
    · rintro rfl; exact ⟨trivial, rfl⟩
    · rintro ⟨_, h⟩
      cases o with
      | nil => rfl
      | cons a o => exact absurd (stO_tb.2 (List.mem_cons_self (a := a) (l := o))) (by rw [h]; simp)
  | f + 1, m, o, hm, hf => by
    unfold ulC
    split
    · rename_i h0
      subst h0
      rw [List.mem_singleton]
      constructor
      · rintro rfl; exact ⟨trivial, rfl⟩
      · rintro ⟨_, h⟩
        cases o with
        | nil => rfl
        | cons a o => exact absurd (stO_tb.2 (List.mem_cons_self (a := a) (l := o))) (by rw [h]; simp)
    · rename_i h0
      rw [List.mem_flatMap]
      constructor
      · rintro ⟨a, ha, h⟩
        have ha := List.mem_range.1 ha
        split at h
        · rename_i hu
          unfold upN at hu
          rw [Bool.and_eq_true] at hu
          obtain ⟨p, hp, rfl⟩ := List.mem_map.1 h
          have hc := cnt_rm ha hu.1
          have hr : rm m a < 2 ^ n := Nat.lt_trans (rm_lt hu.1) hm
          have := (ulC_mem hx f (rm m a) p hr (by omega)).1 hp
          refine ⟨fwd_app.2 ⟨this.1, ?_⟩, ?_⟩
          · rw [Nat.zero_or, this.2]; exact ⟨ha, hu.2, trivial⟩
          · rw [stO_app, this.2, ad_rm hu.1]
        · simp at h
      · rintro ⟨h1, h2⟩
        rcases List.eq_nil_or_concat o with rfl | ⟨p, a, rfl⟩
        · exact absurd h2.symm h0
        · rw [List.concat_eq_append] at h1 h2 ⊢
          obtain ⟨h3, h4, h5, _⟩ := fwd_app.1 h1
          rw [Nat.zero_or] at h5
          have h6 := hx _ _ h5
          rw [stO_app] at h2
          have h7 : m.testBit a = true := by rw [← h2]; exact ad_self
          have h8 : rm m a = stO p := by rw [← h2, rm_ad h6]
          have hc := cnt_rm h4 h7
          refine ⟨a, List.mem_range.2 h4, ?_⟩
          rw [if_pos (by unfold upN; rw [h7, h8, h5]; rfl)]
          refine List.mem_map.2 ⟨p, (ulC_mem hx f (rm m a) p (Nat.lt_trans (rm_lt h7) hm) (by omega)).2 ⟨h3, h8.symm⟩, rfl⟩
theorem flat_nodup {α β : Type} {f : α → List β} : ∀ {l : List α}, l.Nodup → (∀ a ∈ l, (f a).Nodup) → (∀ a ∈ l, ∀ b ∈ l, a ≠ b → ∀ x ∈ f a, x ∉ f b) → (l.flatMap f).Nodup
  | [], _, _, _ => List.nodup_nil
  | a :: l, hn, h1, h2 => by
    obtain ⟨h3, h4⟩ := List.nodup_cons.1 hn
    rw [List.flatMap_cons, List.nodup_append]
    refine ⟨h1 a (by simp), flat_nodup h4 (fun b hb => h1 b (by simp [hb])) (fun b hb c hc => h2 b (by simp [hb]) c (by simp [hc])), fun x hx y hy e => ?_⟩
    subst e
    obtain ⟨b, hb, hy⟩ := List.mem_flatMap.1 hy
    exact h2 a (by simp) b (by simp [hb]) (fun e => h3 (e ▸ hb)) x hx hy
theorem map_nodup {α β : Type} {f : α → β} (hf : ∀ x y, f x = f y → x = y) {l : List α} (h : l.Nodup) : (l.map f).Nodup := by
  induction l with
  | nil => exact List.nodup_nil
  | cons a l ih =>
    obtain ⟨h1, h2⟩ := List.nodup_cons.1 h
    rw [List.map_cons, List.nodup_cons]
    refine ⟨fun h3 => ?_, ih h2⟩
    obtain ⟨x, hx, e⟩ := List.mem_map.1 h3
    exact h1 (hf _ _ e ▸ hx)
theorem ulC_nodup : ∀ (f m : Nat), (ulC n nx f m).Nodup
  | 0, m => by unfold ulC; split <;> simp
  | f + 1, m => by
    unfold ulC
    split
    · simp
    · refine flat_nodup List.nodup_range (fun a _ => ?_) fun a _ b _ hab x hxa hxb => ?_
      · split
        · exact map_nodup (fun x y h => List.append_cancel_right h) (ulC_nodup f _)
        · simp
      · split at hxa
        · split at hxb
          · obtain ⟨p, _, rfl⟩ := List.mem_map.1 hxa
            obtain ⟨q, _, e⟩ := List.mem_map.1 hxb
            have := List.append_inj_right' e rfl
            simp at this; exact hab this.symm
          · simp at hxb
        · simp at hxa
end
section
variable {n : Nat} {ks : List (Nat × Nat)}
def oll (n : Nat) (ks : List (Nat × Nat)) : List (List Nat) := ulC n (nxQ n ks) n (full n)
def IsO (n : Nat) (ks : List (Nat × Nat)) (o : List Nat) : Prop := o.length = n ∧ o.Nodup ∧ (∀ x ∈ o, x < n) ∧ ∀ p ∈ ks, plc o p.1 < plc o p.2
theorem nxQ_nxt : Nxt (nxQ n ks) := nxR_nxt _
theorem oll_len (hv : VB n ks) : (oll n ks).length = cntQ n ks := by rw [oll, ulC_len, ← cnt_R hv]; rfl
theorem oll_nodup : (oll n ks).Nodup := ulC_nodup _ _
theorem full_cnt {n : Nat} : cntN n (full n) = n := by
  unfold cntN
  have : (List.range n).countP (fun a => (full n).testBit a) = (List.range n).length := by
    rw [List.countP_eq_length]
    intro a ha
    rw [full_tb]; simpa using List.mem_range.1 ha
  rw [this, List.length_range]
theorem plc_mem {o : List Nat} {x : Nat} : 0 ≤ plc o x ↔ x ∈ o := by
  unfold plc idxI
  cases e : o.findIdx? (fun y => decide (x = y)) with
  | none =>
    rw [List.findIdx?_eq_none_iff] at e
    constructor
    · intro h; simp at h
    · intro h; have := e x h; simp at this
  | some i =>
    obtain ⟨hi, h1, _⟩ := List.findIdx?_eq_some_iff_getElem.1 e
    constructor
    · intro _; have : x = o[i] := by simpa using h1
      rw [this]; exact List.getElem_mem hi
    · intro _; simp
theorem plc_no {o : List Nat} {x : Nat} (h : x ∉ o) : plc o x = -1 := by
  have h1 := @plc_le o x
  have h2 := @plc_mem o x
  have : ¬ 0 ≤ plc o x := fun h3 => h (h2.1 h3)
  omega
theorem plc_app {o : List Nat} {a x : Nat} : plc (o ++ [a]) x = if x ∈ o then plc o x else if x = a then (o.length : Int) else -1 := by
  by_cases h : x ∈ o
  · rw [if_pos h]
    unfold plc idxI
    rw [List.findIdx?_append]
    cases e : o.findIdx? (fun y => decide (x = y)) with
    | none => rw [List.findIdx?_eq_none_iff] at e; have := e x h; simp at this
    | some i => simp
  · rw [if_neg h]
    unfold plc idxI
    rw [List.findIdx?_append]
    have e : o.findIdx? (fun y => decide (x = y)) = none := by
      rw [List.findIdx?_eq_none_iff]
      intro y hy; simp; rintro rfl; exact h hy
    rw [e]
    by_cases h2 : x = a
    · subst h2; simp
    · simp [h2]
theorem plc_lt {o : List Nat} {x : Nat} : plc o x < o.length := by
  unfold plc idxI
  cases e : o.findIdx? (fun y => decide (x = y)) with
  | none => simp; omega
  | some i =>
    obtain ⟨hi, _, _⟩ := List.findIdx?_eq_some_iff_getElem.1 e
    simp; exact hi
theorem fwd_plc (hv : VB n ks) (o : List Nat) : Fwd n (nxQ n ks) 0 o ↔ o.Nodup ∧ (∀ x ∈ o, x < n) ∧ ∀ p ∈ ks, p.2 ∈ o → p.1 ∈ o ∧ plc o p.1 < plc o p.2 := by
  suffices h : ∀ (k : Nat) (o : List Nat), o.length = k → (Fwd n (nxQ n ks) 0 o ↔ o.Nodup ∧ (∀ x ∈ o, x < n) ∧ ∀ p ∈ ks, p.2 ∈ o → p.1 ∈ o ∧ plc o p.1 < plc o p.2) from h _ o rfl
  intro k
  induction k with
  | zero => intro o h; obtain rfl := List.length_eq_zero_iff.1 h; simp [Fwd]
  | succ k ih =>
    intro o ho
    rcases List.eq_nil_or_concat o with rfl | ⟨p, a, rfl⟩
    · simp at ho
    · rw [List.concat_eq_append] at ho ⊢
      rw [fwd_app, Nat.zero_or, ih p (by simpa using ho)]
      constructor
      · rintro ⟨⟨h1, h2, h3⟩, h4, h5, _⟩
        obtain ⟨h6, h7⟩ := (nxR_iff (bfN_tb hv)).1 h5
        have h8 : a ∉ p := fun h => by rw [stO_tb.2 h] at h6; cases h6
        refine ⟨?_, ?_, ?_⟩
        · rw [List.nodup_append]
          exact ⟨h1, by simp, fun x hx y hy e => by simp at hy; subst hy; subst e; exact h8 hx⟩
        · intro x hx
          rcases List.mem_append.1 hx with hx | hx
          · exact h2 x hx
          · simp at hx; subst hx; exact h4
        · intro q hq hq2
          rcases List.mem_append.1 hq2 with hx | hx
          · obtain ⟨h9, h10⟩ := h3 q hq hx
            exact ⟨List.mem_append_left _ h9, by rw [plc_app, plc_app, if_pos h9, if_pos hx]; exact h10⟩
          · simp at hx
            have h9 : q.1 ∈ p := stO_tb.1 (h7 q.1 (by rw [← hx]; exact hq))
            refine ⟨List.mem_append_left _ h9, ?_⟩
            rw [plc_app, plc_app, if_pos h9, hx, if_neg h8, if_pos rfl]; exact plc_lt
      · rintro ⟨h1, h2, h3⟩
        rw [List.nodup_append] at h1
        have h8 : a ∉ p := fun h => h1.2.2 a h a (by simp) rfl
        refine ⟨⟨h1.1, fun x hx => h2 x (List.mem_append_left _ hx), fun q hq hq2 => ?_⟩, h2 a (by simp), (nxR_iff (bfN_tb hv)).2 ⟨?_, fun x hx => ?_⟩, trivial⟩
        · obtain ⟨h9, h10⟩ := h3 q hq (List.mem_append_left _ hq2)
          by_cases h11 : q.1 ∈ p
          · rw [plc_app, plc_app, if_pos h11, if_pos hq2] at h10; exact ⟨h11, h10⟩
          · exfalso
            rw [plc_app, plc_app, if_neg h11, if_pos hq2] at h10
            have h12 : q.1 = a := by
              rcases List.mem_append.1 h9 with h | h
              · exact absurd h h11
              · simpa using h
            rw [if_pos h12] at h10
            have := @plc_lt p q.2; omega
        · cases e : (stO p).testBit a with
          | false => rfl
          | true => exact absurd (stO_tb.1 e) h8
        · obtain ⟨h9, h10⟩ := h3 (x, a) hx (by simp)
          rw [stO_tb]
          rcases List.mem_append.1 h9 with h | h
          · exact h
          · simp at h; subst h; exact absurd h10 (Int.lt_irrefl _)
theorem oll_mem (hv : VB n ks) {o : List Nat} : o ∈ oll n ks ↔ IsO n ks o := by
  rw [oll, ulC_mem nxQ_nxt n (full n) o full_lt (by rw [full_cnt]; exact Nat.le_refl _), fwd_plc hv]
  constructor
  · rintro ⟨⟨h1, h2, h3⟩, h4⟩
    have h5 : o.length = n := by rw [← cnt_set h1 h2, h4, full_cnt]
    refine ⟨h5, h1, h2, fun p hp => (h3 p hp ?_).2⟩
    exact all_in h1 h5 h2 (hv.2.2.2 p hp).2.1
  · rintro ⟨h1, h2, h3, h4⟩
    refine ⟨⟨h2, h3, fun p hp _ => ⟨all_in h2 h1 h3 (hv.2.2.2 p hp).1, h4 p hp⟩⟩, ?_⟩
    apply eq_full (stO_lt h3)
    intro a ha
    exact stO_tb.2 (all_in h2 h1 h3 ha)
end
end Go.Proofs.Ythmibifghihdaaa
end

section
namespace Go.Proofs.Ythmibifghihdaaa
set_option maxRecDepth 20000
open Go.AE
section
variable {n : Nat} {ks : List (Nat × Nat)}
def IsP (n : Nat) (o : List Nat) : Prop := o.length = n ∧ o.Nodup ∧ ∀ x ∈ o, x < n
theorem nxtK_mem {o p : List Nat} : p ∈ nxtK n o n ↔ ∃ a, a < n ∧ a ∉ o ∧ p = o ++ [a] := by
  unfold nxtK
  rw [List.mem_map]
  constructor
  · rintro ⟨a, ha, rfl⟩
    rw [List.mem_filter, List.mem_range, decide_eq_true_eq] at ha
    exact ⟨a, ha.1, fun h => by have := plc_mem.2 h; omega, rfl⟩
  · rintro ⟨a, h1, h2, rfl⟩
    refine ⟨a, ?_, rfl⟩
    rw [List.mem_filter, List.mem_range, decide_eq_true_eq, plc_no h2]
    exact ⟨h1, by omega⟩
theorem arr_mem : ∀ (k : Nat) (o : List Nat), o ∈ arr n k ↔ o.length = k ∧ o.Nodup ∧ ∀ x ∈ o, x < n
  | 0, o => by
    simp only [arr, List.mem_singleton]
    constructor
    · rintro rfl; simp
    · rintro ⟨h, _⟩; exact List.length_eq_zero_iff.1 h
  | k + 1, o => by
    rw [arr, List.mem_flatMap]
    constructor
    · rintro ⟨p, hp, ho⟩
      obtain ⟨h1, h2, h3⟩ := (arr_mem k p).1 hp
      obtain ⟨a, ha, hap, rfl⟩ := nxtK_mem.1 ho
      refine ⟨by simp [h1], ?_, fun x hx => ?_⟩
      · rw [List.nodup_append]
        exact ⟨h2, by simp, fun x hx y hy e => by simp at hy; subst hy; subst e; exact hap hx⟩
      · rcases List.mem_append.1 hx with h | h
        · exact h3 x h
        · simp at h; omega
    · rintro ⟨h1, h2, h3⟩
      rcases List.eq_nil_or_concat o with rfl | ⟨p, a, rfl⟩
      · simp at h1
      · rw [List.concat_eq_append] at h1 h2 h3 ⊢
        rw [List.nodup_append] at h2
        refine ⟨p, (arr_mem k p).2 ⟨by simpa using h1, h2.1, fun x hx => h3 x (List.mem_append_left _ hx)⟩, nxtK_mem.2 ⟨a, h3 a (by simp), fun h => h2.2.2 a h a (by simp) rfl, rfl⟩⟩
theorem arr_nodup : ∀ k, (arr n k).Nodup
  | 0 => by simp [arr]
  | k + 1 => by
    rw [arr]
    refine flat_nodup (arr_nodup k) (fun o _ => ?_) fun o _ q _ hoq x hx hy => ?_
    · unfold nxtK
      exact map_nodup (fun a b h => by simpa using List.append_cancel_left h) (List.Pairwise.filter _ List.nodup_range)
    · obtain ⟨a, _, _, rfl⟩ := nxtK_mem.1 hx
      obtain ⟨b, _, _, e⟩ := nxtK_mem.1 hy
      exact hoq (List.append_inj_left' e rfl)
theorem plc_inj {o : List Nat} {x y : Nat} (hx : x ∈ o) (h : plc o x = plc o y) : x = y := by
  unfold plc idxI at h
  have h1 := plc_mem.2 hx
  unfold plc idxI at h1
  cases e1 : o.findIdx? (fun z => decide (x = z)) with
  | none => rw [e1] at h1; simp at h1
  | some i =>
    rw [e1] at h
    cases e2 : o.findIdx? (fun z => decide (y = z)) with
    | none => rw [e2] at h; simp at h
    | some j =>
      rw [e2] at h
      have h : i = j := by have h : (i : Int) = (j : Int) := h
                           omega
      subst h
      obtain ⟨hi, h3, _⟩ := List.findIdx?_eq_some_iff_getElem.1 e1
      obtain ⟨_, h4, _⟩ := List.findIdx?_eq_some_iff_getElem.1 e2
      have h3 : x = o[i] := by simpa using h3
      have h4 : y = o[i] := by simpa using h4
      rw [h3, h4]
theorem chkON_iff (hv : VB n ks) {o : List Nat} (ho : IsP n o) : chkON ks o = 0 ↔ ∀ p ∈ ks, plc o p.1 < plc o p.2 := by
  unfold chkON
  rw [if_neg (fun h => h ho.2.1)]
  constructor
  · intro h p hp
    by_cases h1 : ks.any (vioP o) = true
    · rw [if_pos h1] at h; exact absurd h (by decide)
    · have h2 : ¬ vioP o p = true := fun h2 => h1 (List.any_eq_true.2 ⟨p, hp, h2⟩)
      have h3 : ¬ plc o p.2 < plc o p.1 := by simpa [vioP, plc] using h2
      have hk := hv.2.2.2 p hp
      have h4 : plc o p.1 ≠ plc o p.2 := fun e => hk.2.2 (plc_inj (all_in ho.2.1 ho.1 ho.2.2 hk.1) e)
      omega
  · intro h
    rw [if_neg]
    intro h1
    obtain ⟨p, hp, h2⟩ := List.any_eq_true.1 h1
    have h3 : plc o p.2 < plc o p.1 := by simpa [vioP, plc] using h2
    have := h p hp; omega
theorem ords_mem (hv : VB n ks) {o : List Nat} : o ∈ ords n ks ↔ IsO n ks o := by
  unfold ords ordB
  rw [List.mem_filter, arr_mem, decide_eq_true_eq]
  constructor
  · rintro ⟨h1, h2⟩; exact ⟨h1.1, h1.2.1, h1.2.2, (chkON_iff hv h1).1 h2⟩
  · rintro ⟨h1, h2, h3, h4⟩; exact ⟨⟨h1, h2, h3⟩, (chkON_iff hv ⟨h1, h2, h3⟩).2 h4⟩
theorem ords_nodup : (ords n ks).Nodup := List.Pairwise.filter _ (arr_nodup n)
theorem nodup_permL {l m : List (List Nat)} (h1 : l.Nodup) (h2 : m.Nodup) (h : ∀ x, x ∈ l ↔ x ∈ m) : l.Perm m := by
  rw [List.perm_iff_count]
  intro a
  by_cases ha : a ∈ l
  · rw [h1.count, h2.count, if_pos ha, if_pos ((h a).1 ha)]
  · rw [h1.count, h2.count, if_neg ha, if_neg fun h' => ha ((h a).2 h')]
theorem ords_len (hv : VB n ks) : (ords n ks).length = cntQ n ks := by
  rw [← oll_len hv]
  exact (nodup_permL ords_nodup oll_nodup fun o => by rw [ords_mem hv, oll_mem hv]).length_eq
def Fit (n : Nat) (L : List (List Nat)) : Prop := L.Nodup ∧ ∀ o ∈ L, IsP n o
theorem ords_fit (hv : VB n ks) : Fit n (ords n ks) := ⟨ords_nodup, fun o ho => by have := (ords_mem hv).1 ho; exact ⟨this.1, this.2.1, this.2.2.1⟩⟩
theorem fit_prt {L : List (List Nat)} (h : Fit n L) {x y : Nat} : Fit n (prt L x y) := ⟨List.Pairwise.filter _ h.1, fun o ho => h.2 o (prt_sub ho)⟩
theorem prt_ords (hv : VB n ks) {x y : Nat} (hv2 : VB n (ks ++ [(x, y)])) : prt (ords n ks) x y = ords n (ks ++ [(x, y)]) := by
  unfold prt ords
  rw [List.filter_filter]
  refine List.filter_congr fun o ho => ?_
  have hp : IsP n o := (arr_mem n o).1 ho
  rw [Bool.eq_iff_iff]
  simp only [ordB, prtB, Bool.and_eq_true, decide_eq_true_eq]
  rw [chkON_iff hv hp, chkON_iff hv2 hp]
  constructor
  · rintro ⟨h1, h2⟩ p hp
    rcases List.mem_append.1 hp with h | h
    · exact h2 p h
    · simp at h; subst h; exact h1
  · intro h
    exact ⟨h (x, y) (by simp), fun p hp => h p (List.mem_append_left _ hp)⟩
theorem prt_both {o : List Nat} (h : IsP n o) {x y : Nat} (hx : x < n) (hxy : x ≠ y) : prtB y x o = !prtB x y o := by
  have h1 : plc o x ≠ plc o y := fun e => hxy (plc_inj (all_in h.2.1 h.1 h.2.2 hx) e)
  unfold prtB
  by_cases h2 : plc o x < plc o y
  · rw [decide_eq_true h2, decide_eq_false (by omega)]; rfl
  · rw [decide_eq_false h2, decide_eq_true (by omega)]; rfl
theorem prt_sum {L : List (List Nat)} (h : ∀ o ∈ L, IsP n o) {x y : Nat} (hx : x < n) (hxy : x ≠ y) : (prt L x y).length + (prt L y x).length = L.length := by
  unfold prt
  induction L with
  | nil => rfl
  | cons o L ih =>
    have := ih fun o ho => h o (by simp [ho])
    simp only [List.filter_cons, prt_both (h o (by simp)) hx hxy, List.length_cons]
    cases prtB x y o <;> simp <;> omega
def opn (L : List (List Nat)) (p : Nat × Nat) : Bool := decide (0 < (prt L p.1 p.2).length) && decide (0 < (prt L p.2 p.1).length)
def vlD (D : List (List Nat) → Nat) (L : List (List Nat)) (p : Nat × Nat) : Nat := 1 + max (D (prt L p.1 p.2)) (D (prt L p.2 p.1))
def mnS (D : List (List Nat) → Nat) (L : List (List Nat)) (b : Nat) (p : Nat × Nat) : Nat := if opn L p = true then min b (vlD D L p) else b
def mnF (D : List (List Nat) → Nat) (L : List (List Nat)) (i : Nat) (ps : List (Nat × Nat)) : Nat := ps.foldl (mnS D L) i
theorem mnF_le {D : List (List Nat) → Nat} {L : List (List Nat)} {v : Nat} : ∀ (ps : List (Nat × Nat)) (i : Nat), mnF D L i ps ≤ v ↔ i ≤ v ∨ ∃ p ∈ ps, opn L p = true ∧ vlD D L p ≤ v
  | [], i => by simp [mnF]
  | p :: ps, i => by
    show mnF D L (mnS D L i p) ps ≤ v ↔ _
    rw [mnF_le ps]
    unfold mnS
    by_cases h : opn L p = true
    · rw [if_pos h, show (min i (vlD D L p) ≤ v ↔ i ≤ v ∨ vlD D L p ≤ v) by omega]
      constructor
      · rintro ((h1 | h1) | ⟨q, h1, h2⟩)
        · exact .inl h1
        · exact .inr ⟨p, by simp, h, h1⟩
        · exact .inr ⟨q, by simp [h1], h2⟩
      · rintro (h1 | ⟨q, h1, h2, h3⟩)
        · exact .inl (.inl h1)
        · rcases List.mem_cons.1 h1 with rfl | h1
          · exact .inl (.inr h3)
          · exact .inr ⟨q, h1, h2, h3⟩
    · rw [if_neg h]
      constructor
      · rintro (h1 | ⟨q, h1, h2⟩)
        · exact .inl h1
        · exact .inr ⟨q, by simp [h1], h2⟩
      · rintro (h1 | ⟨q, h1, h2, h3⟩)
        · exact .inl h1
        · rcases List.mem_cons.1 h1 with rfl | h1
          · exact absurd h2 h
          · exact .inr ⟨q, h1, h2, h3⟩
theorem opn_T {L : List (List Nat)} {p : Nat × Nat} : opn L p = true ↔ 0 < (prt L p.1 p.2).length ∧ 0 < (prt L p.2 p.1).length := by simp [opn]
theorem fold_congr {f g : Nat → Nat × Nat → Nat} : ∀ (ps : List (Nat × Nat)) (i : Nat), (∀ p ∈ ps, ∀ b, f b p = g b p) → ps.foldl f i = ps.foldl g i
  | [], _, _ => rfl
  | p :: ps, i, h => by
    rw [List.foldl_cons, List.foldl_cons, h p (by simp)]
    exact fold_congr ps _ fun q hq => h q (by simp [hq])
theorem dpF_fuel : ∀ (f g : Nat) (L : List (List Nat)), 0 < L.length → L.length ≤ f → L.length ≤ g → dpF n f L = dpF n g L
  | 0, _, L, h, h1, _ => by omega
  | _ + 1, 0, L, h, _, h2 => by omega
  | f + 1, g + 1, L, h, h1, h2 => by
    show dpB (dpF n f) L (prQ n) = dpB (dpF n g) L (prQ n)
    unfold dpB
    refine fold_congr _ _ fun p _ b => ?_
    unfold dpS
    split
    · rename_i h3
      have h4 := prt_two (L := L) (x := p.1) (y := p.2)
      rw [dpF_fuel f g _ h3.2.1 (by omega) (by omega), dpF_fuel f g _ h3.2.2 (by omega) (by omega)]
    · rfl
theorem dpQ_rec {L : List (List Nat)} (hL : L.length ≤ 24) : dpQ n L = dpB (dpQ n) L (prQ n) := by
  show dpB (dpF n 23) L (prQ n) = dpB (dpF n 24) L (prQ n)
  unfold dpB
  refine fold_congr _ _ fun p _ b => ?_
  unfold dpS
  split
  · rename_i h3
    have h4 := prt_two (L := L) (x := p.1) (y := p.2)
    rw [dpF_fuel 23 24 _ h3.2.1 (by omega) (by omega), dpF_fuel 23 24 _ h3.2.2 (by omega) (by omega)]
  · rfl
theorem ned_0 {l : Nat} (h : l ≤ 1) : nedQ l = 0 := ned_is (by omega) (by rw [one_shl]; omega)
theorem ned_pos {l : Nat} (h : 1 < l) : 0 < nedQ l := by
  unfold nedQ
  exact List.length_pos_of_mem (List.mem_filter.2 ⟨List.mem_range.2 (by omega : 0 < l), by simpa using h⟩)
theorem ned_le {l v : Nat} (h : l ≤ 2 ^ v) : nedQ l ≤ v := by
  unfold nedQ
  have := nodup_len (l := (List.range l).filter fun j => decide (1 <<< j < l)) (m := List.range v) (List.Pairwise.filter _ List.nodup_range) fun j hj => by
    rw [List.mem_filter, decide_eq_true_eq, one_shl] at hj
    rw [List.mem_range]
    exact (Nat.pow_lt_pow_iff_right (by decide : 1 < 2)).1 (Nat.lt_of_lt_of_le hj.2 h)
  rwa [List.length_range] at this
theorem dpB_0 {D : List (List Nat) → Nat} {L : List (List Nat)} (h : L.length ≤ 1) : ∀ ps : List (Nat × Nat), dpB D L ps = 0 := by
  intro ps
  have h0 := ned_0 h
  have : ∀ ps : List (Nat × Nat), ps.foldl (dpS D L) 0 = 0 := by
    intro ps
    induction ps with
    | nil => rfl
    | cons p ps ih => rw [List.foldl_cons]; have : dpS D L 0 p = 0 := by have := @dpS_le D L 0 p; omega
                      rw [this, ih]
  unfold dpB dpI
  rw [if_pos h0, this]
theorem dpQ_0 {L : List (List Nat)} (h : L.length ≤ 1) : dpQ n L = 0 := by rw [dpQ_rec (by omega), dpB_0 h]
theorem prQ_in {p : Nat × Nat} (h : p ∈ prQ n) : p.1 < p.2 ∧ p.2 < n := prK_in (Nat.le_refl _) h
theorem dp_main (hn : n ≤ 4) : ∀ (k : Nat) (L : List (List Nat)), L.length ≤ k → L.length ≤ 24 → Fit n L → L.length ≤ 2 ^ dpQ n L ∧ (1 < L.length → dpQ n L = mnF (dpQ n) L 100 (prQ n))
  | 0, L, h, _, _ => by
    have := Nat.two_pow_pos (dpQ n L)
    exact ⟨by omega, fun h2 => by omega⟩
  | k + 1, L, h, h24, hf => by
    by_cases h1 : L.length ≤ 1
    · have := Nat.two_pow_pos (dpQ n L)
      exact ⟨by omega, fun h2 => by omega⟩
    · have hv : ∀ p ∈ prQ n, opn L p = true → L.length ≤ 2 ^ vlD (dpQ n) L p := by
        intro p hp ho
        have hpi := prQ_in hp
        obtain ⟨h2, h3⟩ := opn_T.1 ho
        have h4 := prt_sum hf.2 (x := p.1) (y := p.2) (by omega) (by omega)
        have h5 := (dp_main hn k (prt L p.1 p.2) (by omega) (by omega) (fit_prt hf)).1
        have h6 := (dp_main hn k (prt L p.2 p.1) (by omega) (by omega) (fit_prt hf)).1
        have h7 : 2 ^ dpQ n (prt L p.1 p.2) ≤ 2 ^ max (dpQ n (prt L p.1 p.2)) (dpQ n (prt L p.2 p.1)) := Nat.pow_le_pow_right (by decide) (by omega)
        have h8 : 2 ^ dpQ n (prt L p.2 p.1) ≤ 2 ^ max (dpQ n (prt L p.1 p.2)) (dpQ n (prt L p.2 p.1)) := Nat.pow_le_pow_right (by decide) (by omega)
        unfold vlD
        rw [Nat.pow_add]; omega
      have he : dpQ n L = mnF (dpQ n) L 100 (prQ n) := by
        rw [dpQ_rec h24]
        unfold dpB mnF dpI
        have := ned_pos (l := L.length) (by omega)
        rw [if_neg (by omega)]
        refine fold_congr _ _ fun p hp b => ?_
        unfold dpS mnS
        by_cases ho : opn L p = true
        · rw [if_pos ho]
          have h2 := opn_T.1 ho
          have h3 := ned_le (hv p hp ho)
          by_cases h4 : nedQ L.length < b
          · rw [if_pos ⟨h4, h2⟩]; rfl
          · rw [if_neg (fun h => h4 h.1)]; omega
        · rw [if_neg ho, if_neg (fun h => ho (opn_T.2 h.2))]
      refine ⟨?_, fun _ => he⟩
      have h9 := (mnF_le (D := dpQ n) (L := L) (v := dpQ n L) (prQ n) 100).1 (by rw [← he]; exact Nat.le_refl _)
      rcases h9 with h9 | ⟨p, hp, ho, h9⟩
      · have : 2 ^ 5 ≤ 2 ^ dpQ n L := Nat.pow_le_pow_right (by decide) (by omega)
        omega
      · exact Nat.le_trans (hv p hp ho) (Nat.pow_le_pow_right (by decide) h9)
theorem dif_all : ((List.range 5).all fun n => (arr n n).all fun o => (arr n n).all fun q => decide (o = q) || (prQ n).any fun p => prtB p.1 p.2 o != prtB p.1 p.2 q) = true := by decide +kernel
theorem opn_some (hn : n ≤ 4) {L : List (List Nat)} (hf : Fit n L) (h : 1 < L.length) : ∃ p ∈ prQ n, opn L p = true := by
  have h0 : L[0] ≠ L[1] := fun e => by
    have := List.pairwise_iff_getElem.1 hf.1 0 1 (by omega) h (by omega)
    exact this e
  have m0 : L[0] ∈ L := List.getElem_mem _
  have m1 : L[1] ∈ L := List.getElem_mem _
  have h1 := List.all_eq_true.1 (List.all_eq_true.1 (List.all_eq_true.1 dif_all n (List.mem_range.2 (by omega))) L[0] ((arr_mem n _).2 (hf.2 _ m0))) L[1] ((arr_mem n _).2 (hf.2 _ m1))
  rw [Bool.or_eq_true, decide_eq_true_eq] at h1
  rcases h1 with h1 | h1
  · exact absurd h1 h0
  · obtain ⟨p, hp, h2⟩ := List.any_eq_true.1 h1
    have hpi := prQ_in hp
    have e0 := prt_both (hf.2 _ m0) (x := p.1) (y := p.2) (by omega) (by omega)
    have e1 := prt_both (hf.2 _ m1) (x := p.1) (y := p.2) (by omega) (by omega)
    refine ⟨p, hp, opn_T.2 ?_⟩
    cases b0 : prtB p.1 p.2 L[0] with
    | true =>
      rw [b0] at h2
      have b1 : prtB p.1 p.2 L[1] = false := by simpa using h2
      rw [b1] at e1
      exact ⟨List.length_pos_of_mem (List.mem_filter.2 ⟨m0, b0⟩), List.length_pos_of_mem (List.mem_filter.2 ⟨m1, e1⟩)⟩
    | false =>
      rw [b0] at h2 e0
      have b1 : prtB p.1 p.2 L[1] = true := by simpa using h2
      exact ⟨List.length_pos_of_mem (List.mem_filter.2 ⟨m1, b1⟩), List.length_pos_of_mem (List.mem_filter.2 ⟨m0, e0⟩)⟩
def opc (n : Nat) (L : List (List Nat)) : Nat := (prQ n).countP (opn L)
theorem prt_mono {L M : List (List Nat)} (h : ∀ o ∈ L, o ∈ M) {x y : Nat} (h2 : 0 < (prt L x y).length) : 0 < (prt M x y).length := by
  obtain ⟨o, ho⟩ := List.exists_mem_of_length_pos h2
  have := List.mem_filter.1 ho
  exact List.length_pos_of_mem (List.mem_filter.2 ⟨h o this.1, this.2⟩)
theorem opn_mono {L M : List (List Nat)} (h : ∀ o ∈ L, o ∈ M) {p : Nat × Nat} (h2 : opn L p = true) : opn M p = true := by
  have := opn_T.1 h2
  exact opn_T.2 ⟨prt_mono h this.1, prt_mono h this.2⟩
theorem prt_no {L : List (List Nat)} {x y : Nat} : (prt (prt L x y) y x).length = 0 := by
  rw [List.length_eq_zero_iff]
  unfold prt
  rw [List.filter_filter, List.filter_eq_nil_iff]
  intro o _ h
  simp only [prtB, Bool.and_eq_true, decide_eq_true_eq] at h
  omega
theorem cnt_moreP {α : Type} {p q : α → Bool} : ∀ (l : List α), (∀ x ∈ l, p x = true → q x = true) → (∃ x ∈ l, p x = false ∧ q x = true) → l.countP p < l.countP q
  | [], _, ⟨x, hx, _⟩ => by simp at hx
  | y :: l, h, ⟨x, hx, h1, h2⟩ => by
    have hle : l.countP p ≤ l.countP q := List.countP_mono_left fun z hz => h z (by simp [hz])
    rw [List.countP_cons, List.countP_cons]
    rcases List.mem_cons.1 hx with rfl | hx
    · rw [h1, h2]; simp; omega
    · have := cnt_moreP l (fun z hz => h z (by simp [hz])) ⟨x, hx, h1, h2⟩
      by_cases hy : p y = true
      · rw [hy, h y (by simp) hy]; simp; omega
      · rw [if_neg hy]; omega
theorem opc_lt {L : List (List Nat)} {p : Nat × Nat} (hp : p ∈ prQ n) (ho : opn L p = true) : opc n (prt L p.1 p.2) < opc n L ∧ opc n (prt L p.2 p.1) < opc n L := by
  constructor
  · refine cnt_moreP (prQ n) (fun q _ h => opn_mono (fun o ho => prt_sub ho) h) ⟨p, hp, ?_, ho⟩
    cases e : opn (prt L p.1 p.2) p with
    | false => rfl
    | true => have := (opn_T.1 e).2; rw [prt_no] at this; omega
  · refine cnt_moreP (prQ n) (fun q _ h => opn_mono (fun o ho => prt_sub ho) h) ⟨p, hp, ?_, ho⟩
    cases e : opn (prt L p.2 p.1) p with
    | false => rfl
    | true => have := (opn_T.1 e).1; rw [prt_no] at this; omega
theorem dp_opc (hn : n ≤ 4) : ∀ (k : Nat) (L : List (List Nat)), opc n L ≤ k → L.length ≤ 24 → Fit n L → dpQ n L ≤ opc n L := by
  intro k
  induction k with
  | zero =>
    intro L h h24 hf
    by_cases h1 : L.length ≤ 1
    · rw [dpQ_0 h1]; omega
    · obtain ⟨p, hp, ho⟩ := opn_some hn hf (by omega)
      have : 0 < opc n L := List.countP_pos_iff.2 ⟨p, hp, ho⟩
      omega
  | succ k ih =>
    intro L h h24 hf
    by_cases h1 : L.length ≤ 1
    · rw [dpQ_0 h1]; omega
    · obtain ⟨p, hp, ho⟩ := opn_some hn hf (by omega)
      have h2 := opc_lt hp ho
      have h3 := @prt_len L p.1 p.2
      have h4 := @prt_len L p.2 p.1
      have h5 := ih _ (by omega) (by omega) (fit_prt (x := p.1) (y := p.2) hf)
      have h6 := ih _ (by omega) (by omega) (fit_prt (x := p.2) (y := p.1) hf)
      rw [(dp_main hn _ L (Nat.le_refl _) h24 hf).2 (by omega), mnF_le]
      exact .inr ⟨p, hp, ho, by unfold vlD; omega⟩
theorem prQ_len (hn : n ≤ 4) : (prQ n).length ≤ 6 := by
  rcases n with _ | _ | _ | _ | _ | n <;> first | decide | omega
theorem dp_prog (hn : n ≤ 4) {L : List (List Nat)} (h24 : L.length ≤ 24) (hf : Fit n L) (h1 : 1 < L.length) : dpQ n L = mnF (dpQ n) L (prQ n).length (prQ n) := by
  have h2 := (dp_main hn _ L (Nat.le_refl _) h24 hf).2 h1
  have h3 := dp_opc hn _ L (Nat.le_refl _) h24 hf
  have h4 : opc n L ≤ (prQ n).length := List.countP_le_length
  have h5 := prQ_len hn
  have h6 : ∀ v, dpQ n L ≤ v ↔ mnF (dpQ n) L (prQ n).length (prQ n) ≤ v := by
    intro v
    rw [mnF_le]
    constructor
    · intro h
      rw [h2, mnF_le] at h
      rcases h with h | h
      · exact .inl (by omega)
      · exact .inr h
    · rintro (h | h)
      · omega
      · rw [h2, mnF_le]; exact .inr h
  exact Nat.le_antisymm ((h6 _).2 (Nat.le_refl _)) ((h6 _).1 (Nat.le_refl _))
theorem vb_add (hv : VB n ks) (h : ks.length ≤ 999) {a b : Nat} (ha : a < n) (hb : b < n) (hab : a ≠ b) : VB n (ks ++ [(a, b)]) := by
  refine ⟨hv.1, hv.2.1, by simp; omega, fun p hp => ?_⟩
  rcases List.mem_append.1 hp with h | h
  · exact hv.2.2.2 p h
  · simp at h; subst h; exact ⟨ha, hb, hab⟩
theorem pth_sub {ms : List (Nat × Nat)} (h : ∀ p ∈ ks, p ∈ ms) {a b : Nat} (r : Pth ks a b) : Pth ms a b := by
  induction r with
  | one h1 => exact .one (h _ h1)
  | more h1 _ ih => exact .more (h _ h1) ih
theorem pth_add {x y a b : Nat} (r : Pth (ks ++ [(x, y)]) a b) : Pth ks a b ∨ ((a = x ∨ Pth ks a x) ∧ (y = b ∨ Pth ks y b)) := by
  induction r with
  | one h =>
    rcases List.mem_append.1 h with h2 | h
    · exact .inl (.one h2)
    · simp at h; exact .inr ⟨.inl h.1, .inl h.2.symm⟩
  | more h _ ih =>
    rcases List.mem_append.1 h with h2 | h
    · rcases ih with ih | ⟨ih1, ih2⟩
      · exact .inl (.more h2 ih)
      · refine .inr ⟨.inr ?_, ih2⟩
        rcases ih1 with e | ih1
        · exact .one (e ▸ h2)
        · exact .more h2 ih1
    · simp at h
      obtain ⟨rfl, rfl⟩ := h
      rcases ih with ih | ⟨_, ih2⟩
      · exact .inr ⟨.inl rfl, .inr ih⟩
      · exact .inr ⟨.inl rfl, ih2⟩
theorem acy_iff (hv : VB n ks) : Acy n ks ↔ ∀ a, ¬ Pth ks a a := by
  constructor
  · intro h a; exact acy_pth hv h
  · intro h j _
    cases e : bt ((faQ n ks).g j) j with
    | false => rfl
    | true => rw [bt_eq] at e; exact absurd ((faQ_tb hv).1 e) (h j)
theorem acy_add (hv : VB n ks) (ha : Acy n ks) {x y : Nat} (hv2 : VB n (ks ++ [(x, y)])) : Acy n (ks ++ [(x, y)]) ↔ ¬ Pth ks y x := by
  rw [acy_iff hv2]
  have hxy : x ≠ y := (hv2.2.2.2 (x, y) (by simp)).2.2
  constructor
  · intro h r
    exact h x (.more (List.mem_append_right _ (by simp)) (pth_sub (fun p hp => List.mem_append_left _ hp) r))
  · intro h a r
    rcases pth_add r with r | ⟨r1, r2⟩
    · exact acy_pth hv ha r
    · apply h
      rcases r1 with rfl | r1
      · rcases r2 with rfl | r2
        · exact absurd rfl hxy
        · exact r2
      · rcases r2 with rfl | r2
        · exact r1
        · exact Pth.trans r2 r1
theorem opB_iff (hv : VB n ks) {x y : Nat} : opB (faQ n ks) (x, y) = true ↔ ¬ Pth ks x y ∧ ¬ Pth ks y x := by
  unfold opB
  rw [zero_bt, zero_bt, Bool.and_eq_true, Bool.not_eq_true', Bool.not_eq_true', ← faQ_tb hv, ← faQ_tb hv]
  simp
theorem opn_ords (hv : VB n ks) (ha : Acy n ks) (hl : ks.length ≤ 999) {x y : Nat} (hx : x < n) (hy : y < n) (hxy : x ≠ y) : opn (ords n ks) (x, y) = opB (faQ n ks) (x, y) := by
  have h1 := vb_add hv hl hx hy hxy
  have h2 := vb_add hv hl hy hx (Ne.symm hxy)
  rw [Bool.eq_iff_iff, opn_T, opB_iff hv]
  show 0 < (prt (ords n ks) x y).length ∧ 0 < (prt (ords n ks) y x).length ↔ _
  rw [prt_ords hv h1, prt_ords hv h2, ords_len h1, ords_len h2, cnt_pos_iff h1, cnt_pos_iff h2, acy_add hv ha h1, acy_add hv ha h2]
  exact And.comm
theorem ords_fa {ms : List (Nat × Nat)} (hv : VB n ks) (hw : VB n ms) (h : faQ n ks = faQ n ms) : ords n ks = ords n ms := by
  unfold ords
  refine List.filter_congr fun o ho => ?_
  have hp : IsP n o := (arr_mem n o).1 ho
  have key : ∀ {us bs : List (Nat × Nat)}, VB n us → VB n bs → faQ n us = faQ n bs → (∀ p ∈ us, plc o p.1 < plc o p.2) → ∀ p ∈ bs, plc o p.1 < plc o p.2 := by
    intro us bs ha hb hab h p hp
    have h1 : Pth us p.1 p.2 := (faQ_tb ha).1 (by rw [hab]; exact (faQ_tb hb).2 (.one hp))
    have : ∀ {a b : Nat}, Pth us a b → plc o a < plc o b := by
      intro a b r
      induction r with
      | one h2 => exact h _ h2
      | more h2 _ ih => exact Int.lt_trans (h _ h2) ih
    exact this h1
  rw [Bool.eq_iff_iff]
  simp only [ordB, decide_eq_true_eq]
  rw [chkON_iff hv hp, chkON_iff hw hp]
  exact ⟨key hv hw h, key hw hv h.symm⟩
def depQ (n : Nat) (ks : List (Nat × Nat)) : Nat := dpQ n (ords n ks)
theorem dep_fa {ms : List (Nat × Nat)} (hv : VB n ks) (hw : VB n ms) (h : faQ n ks = faQ n ms) : depQ n ks = depQ n ms := by rw [depQ, depQ, ords_fa hv hw h]
def aftQ (n : Nat) (ks : List (Nat × Nat)) (p : Nat × Nat) : Nat := if opB (faQ n ks) p = true then max (depQ n (ks ++ [(p.1, p.2)])) (depQ n (ks ++ [(p.2, p.1)])) else depQ n ks
def depS (n : Nat) (ks : List (Nat × Nat)) (b : Nat) (p : Nat × Nat) : Nat := if opB (faQ n ks) p = true then min b (1 + aftQ n ks p) else b
theorem dep_rec (hv : VB n ks) (ha : Acy n ks) (hl : ks.length ≤ 999) (hn : n ≤ 4) : depQ n ks = if 1 < cntQ n ks then (prQ n).foldl (depS n ks) (prQ n).length else 0 := by
  have hoi := ords_in (ks := ks) hn
  rw [← ords_len hv]
  split
  · rename_i h
    rw [depQ, dp_prog hn hoi.1 (ords_fit hv) h]
    unfold mnF
    refine fold_congr _ _ fun p hp b => ?_
    have hpi := prQ_in hp
    unfold mnS depS
    have e : opn (ords n ks) p = opB (faQ n ks) p := opn_ords hv ha hl (x := p.1) (y := p.2) (by omega) hpi.2 (by omega)
    rw [e]
    split
    · rename_i h2
      rw [aftQ, if_pos h2, vlD, prt_ords hv (vb_add hv hl (by omega) hpi.2 (by omega)), prt_ords hv (vb_add hv hl hpi.2 (by omega) (by omega))]
      rfl
    · rfl
  · rename_i h; rw [depQ, dpQ_0 (by omega)]
theorem dep_le (hv : VB n ks) (hn : n ≤ 4) : depQ n ks ≤ 6 := by
  have h1 := dp_opc hn _ (ords n ks) (Nat.le_refl _) (ords_in hn).1 (ords_fit hv)
  have h2 : opc n (ords n ks) ≤ (prQ n).length := List.countP_le_length
  have := prQ_len hn
  rw [depQ]; omega
def opcQ (n : Nat) (ks : List (Nat × Nat)) : Nat := opc n (ords n ks)
theorem opcQ_lt (hv : VB n ks) (ha : Acy n ks) (hl : ks.length ≤ 999) {p : Nat × Nat} (hp : p ∈ prQ n) (ho : opB (faQ n ks) p = true) : opcQ n (ks ++ [(p.1, p.2)]) < opcQ n ks ∧ opcQ n (ks ++ [(p.2, p.1)]) < opcQ n ks := by
  have hpi := prQ_in hp
  have e : opn (ords n ks) p = opB (faQ n ks) p := opn_ords hv ha hl (x := p.1) (y := p.2) (by omega) hpi.2 (by omega)
  have := opc_lt hp (L := ords n ks) (by rw [e]; exact ho)
  rw [prt_ords hv (vb_add hv hl (by omega) hpi.2 (by omega)), prt_ords hv (vb_add hv hl hpi.2 (by omega) (by omega))] at this
  exact this
theorem opcQ_le (hn : n ≤ 4) : opcQ n ks ≤ 6 := by
  have h2 : opc n (ords n ks) ≤ (prQ n).length := List.countP_le_length
  have := prQ_len hn
  unfold opcQ; omega
end
end Go.Proofs.Ythmibifghihdaaa
end

section
namespace Go.Proofs.Ythmibifghihdaaa
set_option maxRecDepth 20000
open Go.AE
abbrev rchA (r : R10) : AV := .agg (r.1.map n64)
theorem r10_ten (r : R10) : ∃ a b c d e f g h i j, r.1 = [a, b, c, d, e, f, g, h, i, j] := by
  obtain ⟨l, hl, _⟩ := r
  match l, hl with
  | [a, b, c, d, e, f, g, h, i, j], _ => exact ⟨a, b, c, d, e, f, g, h, i, j, rfl⟩
theorem rchE : MEnc Try.prog 102 rchA n64 (0 : Nat) where
  inj a b h := by
    simp only [rchA, AV.agg.injEq] at h
    refine Subtype.ext ?_
    exact (List.map_inj_right (fun x y h => by simp only [AV.int.injEq, true_and] at h; exact Int.ofNat.inj h)).1 h
  dk _ := mapD (fun _ => rfl) _
  dv _ := rfl
  key := ⟨_, _, _, inferInstance, inferInstance, fun r => by
    obtain ⟨a, b, c, d, e, f, g, h, i, j, e2⟩ := r10_ten r
    show okFlat _ (.agg (r.1.map n64)) = true
    rw [e2]; rfl, .int .i64 0, fun _ => by kernel_rfl, fun _ _ _ => by simp [Con]⟩
abbrev Mr := List (R10 × Nat × Nat)
abbrev Mq := Mr × Nat
theorem mgetR {ck v : Nat} {k : R10} : ∀ {L : Mr} {j : R10}, mget (mput ck L k v) j = if k = j then some v else mget L j
  | [], j => by simp [mput, mget]
  | e :: L, j => by
    have ih := @mgetR ck v k L j
    unfold mput
    by_cases h : e.1 = k
    · rw [if_pos h]
      by_cases h2 : k = j
      · subst h2; simp [mget]
      · rw [if_neg h2]
        simp only [mget]
        rw [if_neg h2, if_neg (fun h3 => h2 (h ▸ h3))]
    · rw [if_neg h]
      simp only [mget]
      by_cases h3 : e.1 = j
      · rw [if_pos h3, if_pos h3, if_neg]
        intro h4; exact h (h3.trans h4.symm)
      · rw [if_neg h3, if_neg h3, ih]
def dM (n : Nat) : Nat → List (Nat × Nat) → Mq → Mq
  | 0, _, D => D
  | m + 1, ks, D => if (mget D.1 (faQ n ks)).isSome = true then D else
      let E := if 1 < cntQ n ks then (prQ n).foldl (fun D p => if opB (faQ n ks) p = true then dM n m (ks ++ [(p.2, p.1)]) (dM n m (ks ++ [(p.1, p.2)]) D) else D) D else D
      (mput E.2 E.1 (faQ n ks) (depQ n ks), mck E.2 E.1 (faQ n ks))
def dmS (n m : Nat) (ks : List (Nat × Nat)) (D : Mq) (p : Nat × Nat) : Mq := if opB (faQ n ks) p = true then dM n m (ks ++ [(p.2, p.1)]) (dM n m (ks ++ [(p.1, p.2)]) D) else D
def dmK (n m : Nat) (ks : List (Nat × Nat)) (D : Mq) (k : Nat) : Mq := ((prQ n).take k).foldl (dmS n m ks) D
theorem dmK_S {n m : Nat} {ks : List (Nat × Nat)} {D : Mq} {k : Nat} (h : k < (prQ n).length) : dmK n m ks D (k + 1) = dmS n m ks (dmK n m ks D k) (prQ n)[k] := by
  rw [dmK, List.take_succ_eq_append_getElem h, List.foldl_append]; rfl
def dmE (n m : Nat) (ks : List (Nat × Nat)) (D : Mq) : Mq := if 1 < cntQ n ks then dmK n m ks D (prQ n).length else D
theorem dM_new {n m : Nat} {ks : List (Nat × Nat)} {D : Mq} (h : mget D.1 (faQ n ks) = none) : dM n (m + 1) ks D = (mput (dmE n m ks D).2 (dmE n m ks D).1 (faQ n ks) (depQ n ks), mck (dmE n m ks D).2 (dmE n m ks D).1 (faQ n ks)) := by
  have e : dmE n m ks D = if 1 < cntQ n ks then (prQ n).foldl (fun D p => if opB (faQ n ks) p = true then dM n m (ks ++ [(p.2, p.1)]) (dM n m (ks ++ [(p.1, p.2)]) D) else D) D else D := by
    unfold dmE dmK; rw [List.take_length]; rfl
  rw [dM, if_neg (by rw [h]; simp), e]
theorem dM_old {n m v : Nat} {ks : List (Nat × Nat)} {D : Mq} (h : mget D.1 (faQ n ks) = some v) : dM n (m + 1) ks D = D := by rw [dM, if_pos (by rw [h]; rfl)]
def KO (n : Nat) (L : Mr) : Prop := ∀ k v, mget L k = some v → ∃ ms, VB n ms ∧ faQ n ms = k ∧ v = depQ n ms
theorem ko_put {n ck : Nat} {ks : List (Nat × Nat)} {L : Mr} (hv : VB n ks) (h : KO n L) : KO n (mput ck L (faQ n ks) (depQ n ks)) := fun k v e => by
  rw [mgetR] at e
  split at e
  · rename_i h2; exact ⟨ks, hv, h2, by simpa using e.symm⟩
  · exact h k v e
theorem ko_get {n v : Nat} {ks : List (Nat × Nat)} {L : Mr} (hv : VB n ks) (h : KO n L) (e : mget L (faQ n ks) = some v) : v = depQ n ks := by
  obtain ⟨ms, h1, h2, h3⟩ := h _ _ e
  rw [h3]; exact dep_fa h1 hv h2
theorem ko_fold {n : Nat} {f : Mq → Nat × Nat → Mq} : ∀ (ps : List (Nat × Nat)) (D : Mq), (∀ p ∈ ps, ∀ D : Mq, KO n D.1 → KO n (f D p).1) → KO n D.1 → KO n (ps.foldl f D).1
  | [], _, _, h => h
  | p :: ps, D, hf, h => ko_fold ps _ (fun q hq => hf q (by simp [hq])) (hf p (by simp) D h)
theorem dM_ko {n : Nat} : ∀ (m : Nat) (ks : List (Nat × Nat)) (D : Mq), VB n ks → ks.length + m ≤ 999 → KO n D.1 → KO n (dM n m ks D).1
  | 0, _, _, _, _, h => h
  | m + 1, ks, D, hv, hl, h => by
    cases e : mget D.1 (faQ n ks) with
    | some v => rw [dM_old e]; exact h
    | none =>
      rw [dM_new e]
      refine ko_put hv ?_
      unfold dmE
      split
      · refine ko_fold _ _ (fun p hp D hD => ?_) h
        have hpi := prQ_in (List.mem_of_mem_take hp)
        unfold dmS
        split
        · exact dM_ko m _ _ (vb_add hv (by omega) hpi.2 (by omega) (by omega)) (by simp; omega) (dM_ko m _ _ (vb_add hv (by omega) (by omega) hpi.2 (by omega)) (by simp; omega) hD)
        · exact hD
      · exact h
theorem dmK_ko {n m k : Nat} {ks : List (Nat × Nat)} {D : Mq} (hv : VB n ks) (hl : ks.length + m ≤ 990) (h : KO n D.1) : KO n (dmK n m ks D k).1 := by
  refine ko_fold _ _ (fun p hp D hD => ?_) h
  have hpi := prQ_in (List.mem_of_mem_take hp)
  unfold dmS
  split
  · exact dM_ko m _ _ (vb_add hv (by omega) hpi.2 (by omega) (by omega)) (by simp; omega) (dM_ko m _ _ (vb_add hv (by omega) (by omega) hpi.2 (by omega)) (by simp; omega) hD)
  · exact hD
def depK (n : Nat) (ks : List (Nat × Nat)) (k : Nat) : Nat := ((prQ n).take k).foldl (depS n ks) (prQ n).length
theorem depK_S {n : Nat} {ks : List (Nat × Nat)} {k : Nat} (h : k < (prQ n).length) : depK n ks (k + 1) = depS n ks (depK n ks k) (prQ n)[k] := by
  rw [depK, List.take_succ_eq_append_getElem h, List.foldl_append]; rfl
theorem depK_le {n : Nat} {ks : List (Nat × Nat)} (k : Nat) (h : k ≤ (prQ n).length) : depK n ks k ≤ (prQ n).length := by
  induction k with
  | zero => exact Nat.le_refl _
  | succ k ih =>
    rw [depK_S h]
    have := ih (by omega)
    unfold depS; split <;> omega
theorem after_o (n : Nat) (hn4 : n ≤ 4) (m : Nat) (ih : ∀ (ms : List (Nat × Nat)) (c : Option Nat) (L : Mr) (ck : Nat), VB n ms → Acy n ms → ms.length + m ≤ 900 → opcQ n ms < m → KO n L → MutP Try.prog 78 [skyP n ms c (seQ ms) (faQ n ms) (briQ n ms), .mapl 0] [(0, some (.map (mE rchA n64 L) ck))] 1 (i64 ((depQ n ms : Nat) : Int)) [(0, some (.map (mE rchA n64 (dM n m ms (L, ck)).1) (dM n m ms (L, ck)).2))] 1) (ks : List (Nat × Nat)) (c : Option Nat) (L : Mr) (ck : Nat) (hv : VB n ks) (ha : Acy n ks) (hl : ks.length + (m + 1) ≤ 900) (ho : opcQ n ks < m + 1) (hK : KO n L) (a b : Nat) (hp : (a, b) ∈ prQ n) (hop : opB (faQ n ks) (a, b) = true) : MutP Try.prog 84 [skyP n ks c (seQ ks) (faQ n ks) (briQ n ks), .agg [i64 (a : Nat), i64 (b : Nat)], .mapl 0] [(0, some (.map (mE rchA n64 L) ck))] 1 (i64 ((max (depQ n (ks ++ [(a, b)])) (depQ n (ks ++ [(b, a)])) : Nat) : Int)) [(0, some (.map (mE rchA n64 ((dM n m (ks ++ [(b, a)]) ((dM n m (ks ++ [(a, b)]) (L, ck)).1, (dM n m (ks ++ [(a, b)]) (L, ck)).2)).1)) ((dM n m (ks ++ [(b, a)]) ((dM n m (ks ++ [(a, b)]) (L, ck)).1, (dM n m (ks ++ [(a, b)]) (L, ck)).2)).2)))] 1 := by
  have hv' := hv
  obtain ⟨hn1, hn, hkl, hk⟩ := hv'
  have hk2 := vb_lt hv
  have hpi := prQ_in hp
  have hv1 := vb_add hv (by omega) (show a < n by omega) hpi.2 (show a ≠ b by omega)
  have hv2 := vb_add hv (by omega) hpi.2 (show a < n by omega) (show b ≠ a by omega)
  have hoB := (opB_iff hv).1 hop
  have ha1 := (acy_add hv ha hv1).2 hoB.2
  have ha2 := (acy_add hv ha hv2).2 hoB.1
  have hoc := opcQ_lt hv ha (by omega) hp hop
  have hoc1 : opcQ n (ks ++ [(a, b)]) < opcQ n ks := hoc.1
  have hoc2 : opcQ n (ks ++ [(b, a)]) < opcQ n ks := hoc.2
  have hK1 := dM_ko m (ks ++ [(a, b)]) (L, ck) hv1 (by simp; omega) hK
  have hd1 := dep_le hv1 hn4
  have hd2 := dep_le hv2 hn4
  refine mut_of_body Try.func84 (c := body Try.f84) rfl (by decide) (by simp [Try.ntmps84]) fun w0 Φ0 ρ0 => ?_
  refine W_seq rfl ?_
  refine W_reg rfl ?_
  refine Rv rfl rfl rfl (U_boxF rfl rfl rfl) rfl rfl ?_
  refine Rv rfl rfl rfl (U_assign rfl) rfl rfl ?_
  refine Re rfl ?_
  refine thenQ_n ?_
  refine W_seq rfl ?_
  refine W_seq rfl ?_
  refine W_reg rfl ?_
  refine Rv rfl rfl rfl (U_move rfl) rfl rfl ?_
  refine Rv rfl rfl rfl (U_load2 rfl rfl rfl rfl) rfl rfl ?_
  refine Rv rfl rfl rfl (U_call rfl rfl (open_p n ks c (seQ ks) (faQ n ks) (briQ n ks) a b (by first | assumption | omega) (by first | assumption | omega)) rfl) rfl rfl ?_
  refine Rv rfl rfl rfl (U_not rfl) rfl rfl ?_
  refine Re rfl ?_
  refine thenQ_n ?_
  refine Wcond rfl rfl (fun hc0 => absurd hc0 (by simp [hop])) (fun hc0 => ?_)
  refine W_skip rfl ?_
  refine thenQ_n ?_
  refine W_seq rfl ?_
  refine WdrawC [16, 18, 19, 24, 26, 27] [21, 29] rfl (by kernel_rfl) (by kernel_rfl) ?_
  refine Dv rfl rfl rfl (U_move rfl) rfl rfl ?_
  refine Dv rfl rfl rfl (U_indexAR (j := 0) rfl rfl rfl (by decide)) rfl rfl ?_
  refine Dv rfl rfl rfl (U_load1 rfl rfl rfl) rfl rfl ?_
  refine Dv rfl rfl rfl (U_indexAR (j := 1) rfl rfl rfl (by decide)) rfl rfl ?_
  refine Dv rfl rfl rfl (U_load1 rfl rfl rfl) rfl rfl ?_
  refine Dv rfl rfl rfl (U_call rfl rfl (with_p n ks c (seQ ks) (faQ n ks) (briQ n ks) (by omega) (by omega) (by assumption) a b (by first | assumption | omega) (by first | assumption | omega)) rfl) rfl rfl ?_
  refine Dv rfl rfl rfl (U_move rfl) rfl rfl ?_
  refine Da rfl rfl rfl (OpU.upsE (ups_map1 (mE_data (fun r => rchE.dk r) (fun _ => rfl) _) rfl) (U_callT (mapN [0]) rfl rfl (ih (ks ++ [(a, b)]) none L ck (by assumption) (by assumption) (by simp; omega) (by omega) (by first | assumption | exact dM_ko m _ (L, ck) (by assumption) (by simp; omega) (by assumption))) rfl rfl ⟨rMp (mE_data (fun r => rchE.dk r) (fun _ => rfl) _) rfl rfl, trivial⟩ rfl rfl)) rfl rfl rfl rfl ?_
  refine Dv rfl rfl rfl (U_move rfl) rfl rfl ?_
  refine Dv rfl rfl rfl (U_indexAR (j := 1) rfl rfl rfl (by decide)) rfl rfl ?_
  refine Dv rfl rfl rfl (U_load1 rfl rfl rfl) rfl rfl ?_
  refine Dv rfl rfl rfl (U_indexAR (j := 0) rfl rfl rfl (by decide)) rfl rfl ?_
  refine Dv rfl rfl rfl (U_load1 rfl rfl rfl) rfl rfl ?_
  refine Dv rfl rfl rfl (U_call rfl rfl (with_p n ks c (seQ ks) (faQ n ks) (briQ n ks) (by omega) (by omega) (by assumption) b a (by first | assumption | omega) (by first | assumption | omega)) rfl) rfl rfl ?_
  refine Dv rfl rfl rfl (U_move rfl) rfl rfl ?_
  refine Da rfl rfl rfl (OpU.upsE (ups_map1 (mE_data (fun r => rchE.dk r) (fun _ => rfl) _) rfl) (U_callT (mapN [0]) rfl rfl (ih (ks ++ [(b, a)]) none ((dM n m (ks ++ [(a, b)]) (L, ck)).1) ((dM n m (ks ++ [(a, b)]) (L, ck)).2) (by assumption) (by assumption) (by simp; omega) (by omega) (by first | assumption | exact dM_ko m _ (((dM n m (ks ++ [(a, b)]) (L, ck)).1), ((dM n m (ks ++ [(a, b)]) (L, ck)).2)) (by assumption) (by simp; omega) (by assumption))) rfl rfl ⟨rMp (mE_data (fun r => rchE.dk r) (fun _ => rfl) _) rfl rfl, trivial⟩ rfl rfl)) rfl rfl rfl rfl ?_
  refine Dv rfl rfl rfl (U_max (m := (((max (depQ n (ks ++ [(a, b)])) (depQ n (ks ++ [(b, a)]))) : Nat) : Int)) rfl rfl (by omega)) rfl rfl ?_
  refine Dv rfl rfl rfl (U_assign rfl) rfl rfl ?_
  refine Dr.nil rfl ?_
  refine thenQ_n ?_
  refine W_ret rfl ?_
  exact retTo (T' := [(6, i64 ((max (depQ n (ks ++ [(a, b)])) (depQ n (ks ++ [(b, a)])) : Nat) : Int))]) id ⟨eD rfl rfl, trivial⟩ ⟨rMp (mE_data (fun r => rchE.dk r) (fun _ => rfl) _) rfl rfl, trivial⟩ rfl rfl (fun _ _ => rfl) (rlT rfl rl0) rfl
theorem depK_p (n : Nat) (ks : List (Nat × Nat)) (c : Option Nat) (L : Mr) (ck v : Nat) (hk : mget L (faQ n ks) = some v) : MutP Try.prog 78 [skyP n ks c (seQ ks) (faQ n ks) (briQ n ks), .mapl 0] [(0, some (.map (mE rchA n64 L) ck))] 1 (i64 ((v : Nat) : Int)) [(0, some (.map (mE rchA n64 L) ck))] 1 := by
  refine mut_of_body Try.func78 (c := body Try.f78) rfl (by decide) (by simp [Try.ntmps78]) fun w0 Φ0 ρ0 => ?_
  refine W_seq rfl ?_
  refine W_reg rfl ?_
  refine Rv rfl rfl rfl (U_assign rfl) rfl rfl ?_
  refine Re rfl ?_
  refine thenQ_n ?_
  refine W_seq rfl ?_
  refine W_seq rfl ?_
  refine W_reg rfl ?_
  refine Rv rfl rfl rfl (U_move rfl) rfl rfl ?_
  refine Rv rfl rfl rfl (U_move rfl) rfl rfl ?_
  refine Rv rfl rfl rfl (U_nilCheckR rfl) rfl rfl ?_
  refine Rv rfl rfl rfl (U_fieldAddrR rfl) rfl rfl ?_
  refine Rv rfl rfl rfl (U_loadA rfl rfl (skN12 _ _ _ _ _ _) (skA12 _ _ _ _ _ _)) rfl rfl ?_
  refine Rv rfl rfl rfl (U_lookupOkM (k := (faQ n ks)) (L := L) rchE rfl rfl rfl rfl rfl) rfl rfl ?_
  refine Rv rfl rfl rfl (U_move rfl) rfl rfl ?_
  refine Rv rfl rfl rfl (U_extract rfl rfl) rfl rfl ?_
  refine Rv rfl rfl rfl (U_extract rfl rfl) rfl rfl ?_
  refine Rv rfl rfl rfl (U_assign rfl) rfl rfl ?_
  refine Rv rfl rfl rfl (U_assign rfl) rfl rfl ?_
  refine Re rfl ?_
  refine thenQ_n ?_
  refine W_seq rfl ?_
  refine W_reg rfl ?_
  refine Rv rfl rfl rfl (U_move rfl) rfl rfl ?_
  refine Re rfl ?_
  refine thenQ_n ?_
  refine Wcond rfl rfl (fun hc0 => ?_) (fun hc0 => absurd hc0 (by rw [hk]; simp))
  refine W_seq rfl ?_
  refine W_reg rfl ?_
  refine Rv rfl rfl rfl (U_move rfl) rfl rfl ?_
  refine Rv rfl rfl rfl (U_assign rfl) rfl rfl ?_
  refine Re rfl ?_
  refine thenQ_n ?_
  refine W_ret rfl ?_
  refine thenQ_r ?_
  exact retTo (T' := [(4, i64 ((((mget L (faQ n ks)).getD 0) : Nat) : Int))]) id ⟨eD rfl rfl, trivial⟩ ⟨rMp (mE_data (fun r => rchE.dk r) (fun _ => rfl) _) rfl rfl, trivial⟩ rfl rfl (fun _ _ => rfl) (rlT rfl rl0) (by first | rfl | (simp only [packA]; rw [hk]; rfl; first | done | rfl))
theorem depN_p (n : Nat) (hn4 : n ≤ 4) (m : Nat) (ih : ∀ (ms : List (Nat × Nat)) (c : Option Nat) (L : Mr) (ck : Nat), VB n ms → Acy n ms → ms.length + m ≤ 900 → opcQ n ms < m → KO n L → MutP Try.prog 78 [skyP n ms c (seQ ms) (faQ n ms) (briQ n ms), .mapl 0] [(0, some (.map (mE rchA n64 L) ck))] 1 (i64 ((depQ n ms : Nat) : Int)) [(0, some (.map (mE rchA n64 (dM n m ms (L, ck)).1) (dM n m ms (L, ck)).2))] 1) (ks : List (Nat × Nat)) (c : Option Nat) (L : Mr) (ck : Nat) (hv : VB n ks) (ha : Acy n ks) (hl : ks.length + (m + 1) ≤ 900) (ho : opcQ n ks < m + 1) (hK : KO n L) (hk0 : mget L (faQ n ks) = none) : MutP Try.prog 78 [skyP n ks c (seQ ks) (faQ n ks) (briQ n ks), .mapl 0] [(0, some (.map (mE rchA n64 L) ck))] 1 (i64 ((depQ n ks : Nat) : Int)) [(0, some (.map (mE rchA n64 ((dM n (m + 1) ks (L, ck)).1)) ((dM n (m + 1) ks (L, ck)).2)))] 1 := by
  have hv' := hv
  obtain ⟨hn1, hn, hkl, hk⟩ := hv'
  have hk2 := vb_lt hv
  have hpl := prQ_len hn4
  have hpm : (prQ n).length ≤ 6 := hpl
  refine mut_of_body Try.func78 (c := body Try.f78) rfl (by decide) (by simp [Try.ntmps78]) fun w0 Φ0 ρ0 => ?_
  refine W_seq rfl ?_
  refine W_reg rfl ?_
  refine Rv rfl rfl rfl (U_assign rfl) rfl rfl ?_
  refine Re rfl ?_
  refine thenQ_n ?_
  refine W_seq rfl ?_
  refine W_seq rfl ?_
  refine W_reg rfl ?_
  refine Rv rfl rfl rfl (U_move rfl) rfl rfl ?_
  refine Rv rfl rfl rfl (U_move rfl) rfl rfl ?_
  refine Rv rfl rfl rfl (U_nilCheckR rfl) rfl rfl ?_
  refine Rv rfl rfl rfl (U_fieldAddrR rfl) rfl rfl ?_
  refine Rv rfl rfl rfl (U_loadA rfl rfl (skN12 _ _ _ _ _ _) (skA12 _ _ _ _ _ _)) rfl rfl ?_
  refine Rv rfl rfl rfl (U_lookupOkM (k := (faQ n ks)) (L := L) rchE rfl rfl rfl rfl rfl) rfl rfl ?_
  refine Rv rfl rfl rfl (U_move rfl) rfl rfl ?_
  refine Rv rfl rfl rfl (U_extract rfl rfl) rfl rfl ?_
  refine Rv rfl rfl rfl (U_extract rfl rfl) rfl rfl ?_
  refine Rv rfl rfl rfl (U_assign rfl) rfl rfl ?_
  refine Rv rfl rfl rfl (U_assign rfl) rfl rfl ?_
  refine Re rfl ?_
  refine thenQ_n ?_
  refine W_seq rfl ?_
  refine W_reg rfl ?_
  refine Rv rfl rfl rfl (U_move rfl) rfl rfl ?_
  refine Re rfl ?_
  refine thenQ_n ?_
  refine Wcond rfl rfl (fun hc0 => absurd hc0 (by rw [hk0]; simp)) (fun hc0 => ?_)
  refine W_skip rfl ?_
  refine thenQ_n ?_
  refine W_seq rfl ?_
  refine W_reg rfl ?_
  refine Rv rfl rfl rfl (U_assign rfl) rfl rfl ?_
  refine Re rfl ?_
  refine thenQ_n ?_
  refine W_seq rfl ?_
  refine W_seq rfl ?_
  refine W_reg rfl ?_
  refine Rv rfl rfl rfl (U_move rfl) rfl rfl ?_
  refine Rv rfl rfl rfl (U_call rfl rfl (count_p n ks c (seQ ks) (faQ n ks) (briQ n ks) (by first | assumption | omega) (by first | assumption | omega)) rfl) rfl rfl ?_
  refine Rv rfl rfl rfl (U_gtr rfl rfl) rfl rfl ?_
  refine Re rfl ?_
  refine thenQ_n ?_
  refine WcondP rfl rfl (fun hc1 => ?_) (fun hc1 => ?_)
  · have hcq : 1 < cntQ n ks := by { unfold cntQ; omega }
    refine W_seq rfl ?_
    refine W_reg rfl ?_
    refine Rv rfl rfl rfl (U_move rfl) rfl rfl ?_
    refine Rv rfl rfl rfl (U_call rfl rfl (pairs_p n ks c (seQ ks) (faQ n ks) (briQ n ks) (by first | assumption | omega)) rfl) rfl rfl ?_
    refine Rv rfl rfl rfl (U_lenOf rfl len_ros) rfl rfl ?_
    refine Rv rfl rfl rfl (U_assign rfl) rfl rfl ?_
    refine Re rfl ?_
    refine thenQ_n ?_
    refine W_seq rfl ?_
    refine W_reg rfl ?_
    refine Rv rfl rfl rfl (U_move rfl) rfl rfl ?_
    refine Rv rfl rfl rfl (U_call rfl rfl (pairs_p n ks c (seQ ks) (faQ n ks) (briQ n ks) (by first | assumption | omega)) rfl) rfl rfl ?_
    refine Rv rfl rfl rfl (U_lenOf rfl len_ros) rfl rfl ?_
    refine Rv rfl rfl rfl (U_move rfl) rfl rfl ?_
    refine Re rfl ?_
    refine thenQ_n ?_
    refine W_block rfl ?_
    refine LoopTo (T' := [(0, .rop (skC n ks c (seQ ks) (faQ n ks) (briQ n ks)) 0), (1, .mapl 0), (7, i64 ((((prQ n).length) : Nat) : Int)), (28, .ros ((prQ n).flatMap lkN) ((prQ n).length) none), (29, i64 (((prQ n).length : Nat) : Int)), (30, i64 ((0 : Nat) : Int))]) (H' := [(0, some (.map (mE rchA n64 ((dmK n m ks (L, ck) 0).1)) ((dmK n m ks (L, ck) 0).2)))]) (n := 1) rfl (fun mz_ qz_ => ∃ (k : Nat) (bs : Nat), k ≤ (prQ n).length ∧ bs = depK n ks k ∧ mz_ = (prQ n).length - k ∧ qz_ = ⟨[(0, .rop (skC n ks c (seQ ks) (faQ n ks) (briQ n ks)) 0), (1, .mapl 0), (7, i64 ((bs : Nat) : Int)), (28, .ros ((prQ n).flatMap lkN) ((prQ n).length) none), (29, i64 (((prQ n).length : Nat) : Int)), (30, i64 ((k : Nat) : Int))], [(0, some (.map (mE rchA n64 ((dmK n m ks (L, ck) k).1)) ((dmK n m ks (L, ck) k).2)))], 1, []⟩) ⟨0, (prQ n).length, (by omega), rfl, rfl, rfl⟩ id ⟨eD rfl rfl, e_ rfl rfl, eD rfl rfl, eD rfl rfl, eD rfl rfl, eD rfl rfl, trivial⟩ ⟨rMp (mE_data (fun r => rchE.dk r) (fun _ => rfl) _) rfl rfl, trivial⟩ rfl rfl rfl rfl (fun _ _ => rfl) ?_
    rintro _ _ ⟨k, bs, hi0_0, hi0_1, rfl, rfl⟩
    have hbl : bs ≤ 6 := by { rw [hi0_1]; have := depK_le (n := n) (ks := ks) k (by omega); omega }
    have hKk := dmK_ko (m := m) (k := k) hv (by omega) (D := (L, ck)) hK
    refine W_seq rfl ?_
    refine W_reg rfl ?_
    refine Rv rfl rfl rfl (U_lss rfl rfl) rfl rfl ?_
    refine Re rfl ?_
    refine thenQ_n ?_
    refine W_seq rfl ?_
    refine WcondP rfl rfl (fun hc2 => ?_) (fun hc2 => ?_)
    · have hck : k < (prQ n).length := by omega
      have hpk : ((prQ n)[k].1, (prQ n)[k].2) ∈ prQ n := List.getElem_mem hck
      have hpi := prQ_in hpk
      have hpi1 : (prQ n)[k].1 < (prQ n)[k].2 := hpi.1
      have hpi2 : (prQ n)[k].2 < n := hpi.2
      have hd1 := dep_le (vb_add hv (by omega) (show (prQ n)[k].1 < n by omega) hpi2 (by omega)) hn4
      have hd2 := dep_le (vb_add hv (by omega) hpi2 (show (prQ n)[k].1 < n by omega) (by omega)) hn4
      refine W_skip rfl ?_
      refine thenQ_n ?_
      refine W_seq rfl ?_
      refine W_block rfl ?_
      refine W_seq rfl ?_
      refine W_reg rfl ?_
      have hx1 : k < (prQ n).length := by omega
      refine Rv rfl rfl rfl (U_indexR (j := k) rfl rfl rfl hx1) rfl rfl ?_
      refine Rv rfl rfl rfl (U_load2 rfl rfl (lkH0 hx1) (lkH1 hx1)) rfl rfl ?_
      refine Ra rfl rfl rfl (U_alloc) rfl rfl rfl ?_
      refine Rn rfl rfl rfl (U_storeAll rfl rfl rfl rfl rfl rfl) rfl ?_
      refine Re rfl ?_
      refine thenQ_n ?_
      refine WfrN 1 rfl rfl (T' := [(0, .rop (skC n ks c (seQ ks) (faQ n ks) (briQ n ks)) 0), (1, .mapl 0), (7, i64 ((bs : Nat) : Int)), (9, .rop [i64 ((((prQ n)[k]).1 : Nat) : Int), i64 ((((prQ n)[k]).2 : Nat) : Int)] 0), (28, .ros ((prQ n).flatMap lkN) ((prQ n).length) none), (29, i64 (((prQ n).length : Nat) : Int)), (30, i64 ((k : Nat) : Int))]) (H' := [(0, some (.map (mE rchA n64 ((dmK n m ks (L, ck) k).1)) ((dmK n m ks (L, ck) k).2)))]) ⟨⟨_, rfl, rfl⟩, ⟨_, rfl, rfl⟩, ⟨_, rfl, rfl⟩, ⟨_, rfl, rfl⟩, ⟨_, rfl, rfl⟩, ⟨_, rfl, rfl⟩, ⟨_, rfl, rfl⟩, trivial⟩ ⟨⟨rfl, rFMp (mE_data (fun r => rchE.dk r) (fun _ => rfl) _) rfl⟩, trivial⟩ ?_
      refine W_seq rfl ?_
      refine W_reg rfl ?_
      refine Rv rfl rfl rfl (U_move rfl) rfl rfl ?_
      refine Rv rfl rfl rfl (U_load2 rfl rfl rfl rfl) rfl rfl ?_
      refine Rv rfl rfl rfl (U_call rfl rfl (open_p n ks c (seQ ks) (faQ n ks) (briQ n ks) (((prQ n)[k]).1) (((prQ n)[k]).2) (by first | assumption | omega) (by first | assumption | omega)) rfl) rfl rfl ?_
      refine Re rfl ?_
      refine thenQ_n ?_
      refine Wcond rfl rfl (fun hc3 => ?_) (fun hc3 => ?_)
      · have hbs : min bs (1 + max (depQ n (ks ++ [((prQ n)[k].1, (prQ n)[k].2)])) (depQ n (ks ++ [((prQ n)[k].2, (prQ n)[k].1)]))) = depK n ks (k + 1) := by { rw [depK_S hck, ← hi0_1, depS, if_pos hc3, aftQ, if_pos hc3] }
        have hdT : dmK n m ks (L, ck) (k + 1) = dM n m (ks ++ [((prQ n)[k].2, (prQ n)[k].1)]) (dM n m (ks ++ [((prQ n)[k].1, (prQ n)[k].2)]) (dmK n m ks (L, ck) k)) := by { rw [dmK_S hck, dmS, if_pos hc3] }
        refine W_reg rfl ?_
        refine Rv rfl rfl rfl (U_move rfl) rfl rfl ?_
        refine Rv rfl rfl rfl (U_move rfl) rfl rfl ?_
        refine Rv rfl rfl rfl (U_load2 rfl rfl rfl rfl) rfl rfl ?_
        refine Rv rfl rfl rfl (U_move rfl) rfl rfl ?_
        refine Ra rfl rfl rfl (U_callT (mapN [0]) rfl rfl (after_o n hn4 m ih ks c ((dmK n m ks (L, ck) k).1) ((dmK n m ks (L, ck) k).2) (by assumption) (by assumption) (by omega) (by omega) (by assumption) (((prQ n)[k]).1) (((prQ n)[k]).2) (by assumption) (by assumption)) rfl rfl ⟨rMp (mE_data (fun r => rchE.dk r) (fun _ => rfl) _) rfl rfl, trivial⟩ rfl rfl) rfl rfl rfl ?_
        refine Rto (T' := [(0, .rop (skC n ks c (seQ ks) (faQ n ks) (briQ n ks)) 0), (1, .mapl 0), (28, .ros ((prQ n).flatMap lkN) ((prQ n).length) none), (29, i64 (((prQ n).length : Nat) : Int)), (30, i64 ((k : Nat) : Int)), (37, i64 ((bs : Nat) : Int)), (41, i64 ((max (depQ n (ks ++ [((((prQ n)[k]).1), (((prQ n)[k]).2))])) (depQ n (ks ++ [((((prQ n)[k]).2), (((prQ n)[k]).1))])) : Nat) : Int))]) (H' := [(0, some (.map (mE rchA n64 ((dM n m (ks ++ [((((prQ n)[k]).2), (((prQ n)[k]).1))]) ((dM n m (ks ++ [((((prQ n)[k]).1), (((prQ n)[k]).2))]) (((dmK n m ks (L, ck) k).1), ((dmK n m ks (L, ck) k).2))).1, (dM n m (ks ++ [((((prQ n)[k]).1), (((prQ n)[k]).2))]) (((dmK n m ks (L, ck) k).1), ((dmK n m ks (L, ck) k).2))).2)).1)) ((dM n m (ks ++ [((((prQ n)[k]).2), (((prQ n)[k]).1))]) ((dM n m (ks ++ [((((prQ n)[k]).1), (((prQ n)[k]).2))]) (((dmK n m ks (L, ck) k).1), ((dmK n m ks (L, ck) k).2))).1, (dM n m (ks ++ [((((prQ n)[k]).1), (((prQ n)[k]).2))]) (((dmK n m ks (L, ck) k).1), ((dmK n m ks (L, ck) k).2))).2)).2)))]) (n := 2) id ⟨eD rfl rfl, e_ rfl rfl, eD rfl rfl, eD rfl rfl, eD rfl rfl, eD rfl rfl, eD rfl rfl, trivial⟩ ⟨rMM (mE_data (fun r => rchE.dk r) (fun _ => rfl) _) rfl rfl, trivial⟩ rfl rfl rfl rfl (fun _ _ => rfl) ?_
        refine Rv rfl rfl rfl (U_add rfl rfl (w64e (m := ((1 + max (depQ n (ks ++ [((prQ n)[k].1, (prQ n)[k].2)])) (depQ n (ks ++ [((prQ n)[k].2, (prQ n)[k].1)])) : Nat) : Int)) (by omega) (by omega) (by omega))) rfl rfl ?_
        refine Rv rfl rfl rfl (U_min (m := (((min bs (1 + max (depQ n (ks ++ [((prQ n)[k].1, (prQ n)[k].2)])) (depQ n (ks ++ [((prQ n)[k].2, (prQ n)[k].1)])))) : Nat) : Int)) rfl rfl (by omega)) rfl rfl ?_
        refine Rv rfl rfl rfl (U_assign rfl) rfl rfl ?_
        refine Re rfl ?_
        refine blkQ_n ?_
        refine thenQ_n ?_
        refine W_reg rfl ?_
        refine Rv rfl rfl rfl (U_add rfl rfl (w64e (m := ((k + 1 : Nat) : Int)) (by omega) (by omega) (by omega))) rfl rfl ?_
        refine Rv rfl rfl rfl (U_move rfl) rfl rfl ?_
        refine Re rfl ?_
        refine thenQ_n ?_
        exact againTo (T' := [(0, .rop (skC n ks c (seQ ks) (faQ n ks) (briQ n ks)) 0), (1, .mapl 0), (7, i64 (((min bs (1 + max (depQ n (ks ++ [((prQ n)[k].1, (prQ n)[k].2)])) (depQ n (ks ++ [((prQ n)[k].2, (prQ n)[k].1)])))) : Nat) : Int)), (28, .ros ((prQ n).flatMap lkN) ((prQ n).length) none), (29, i64 (((prQ n).length : Nat) : Int)), (30, i64 (((k + 1) : Nat) : Int))]) (H' := [(0, some (.map (mE rchA n64 ((dmK n m ks (L, ck) (k + 1)).1)) ((dmK n m ks (L, ck) (k + 1)).2)))]) (n := 1) ((prQ n).length - (k + 1)) ⟨k + 1, min bs (1 + max (depQ n (ks ++ [((prQ n)[k].1, (prQ n)[k].2)])) (depQ n (ks ++ [((prQ n)[k].2, (prQ n)[k].1)]))), (by omega), hbs, rfl, rfl⟩ (by omega) id ⟨eD rfl rfl, e_ rfl rfl, eD rfl rfl, eD rfl rfl, eD rfl rfl, eD rfl rfl, trivial⟩ ⟨rMp' (mE_data (fun r => rchE.dk r) (fun _ => rfl) _) rfl (congrArg (mE _ _) (congrArg Prod.fst hdT).symm) ((congrArg Prod.snd hdT).symm) rfl, trivial⟩ rfl rfl rfl rfl (fun _ _ => rfl)
      · have hc3' := Bool.eq_false_iff.1 hc3
        have hbs : bs = depK n ks (k + 1) := by { rw [depK_S hck, ← hi0_1, depS, if_neg (fun h => by rw [hc3] at h; cases h)] }
        have hdT : dmK n m ks (L, ck) (k + 1) = dmK n m ks (L, ck) k := by { rw [dmK_S hck, dmS, if_neg (fun h => by rw [hc3] at h; cases h)] }
        refine W_skip rfl ?_
        refine blkQ_n ?_
        refine thenQ_n ?_
        refine W_reg rfl ?_
        refine Rv rfl rfl rfl (U_add rfl rfl (w64e (m := ((k + 1 : Nat) : Int)) (by omega) (by omega) (by omega))) rfl rfl ?_
        refine Rv rfl rfl rfl (U_move rfl) rfl rfl ?_
        refine Re rfl ?_
        refine thenQ_n ?_
        exact againTo (T' := [(0, .rop (skC n ks c (seQ ks) (faQ n ks) (briQ n ks)) 0), (1, .mapl 0), (7, i64 ((bs : Nat) : Int)), (28, .ros ((prQ n).flatMap lkN) ((prQ n).length) none), (29, i64 (((prQ n).length : Nat) : Int)), (30, i64 (((k + 1) : Nat) : Int))]) (H' := [(0, some (.map (mE rchA n64 ((dmK n m ks (L, ck) (k + 1)).1)) ((dmK n m ks (L, ck) (k + 1)).2)))]) (n := 1) ((prQ n).length - (k + 1)) ⟨k + 1, bs, (by omega), hbs, rfl, rfl⟩ (by omega) id ⟨eD rfl rfl, e_ rfl rfl, eD rfl rfl, eD rfl rfl, eD rfl rfl, eD rfl rfl, trivial⟩ ⟨rMp' (mE_data (fun r => rchE.dk r) (fun _ => rfl) _) rfl (congrArg (mE _ _) (congrArg Prod.fst hdT).symm) ((congrArg Prod.snd hdT).symm) rfl, trivial⟩ rfl rfl rfl rfl (fun _ _ => rfl)
    · have hkl : k = (prQ n).length := by omega
      have hE : dmE n m ks (L, ck) = dmK n m ks (L, ck) k := by { unfold dmE; rw [if_pos hcq, hkl] }
      have hval : bs = depQ n ks := by { rw [dep_rec hv ha (by omega) hn4, if_pos hcq, hi0_1, depK, List.take_of_length_le (by omega)] }
      refine W_exit rfl ?_
      refine thenQ_x ?_
      refine thenQ_x ?_
      refine blkQ_x rfl ?_
      refine thenQ_n ?_
      refine W_seq rfl ?_
      refine W_reg rfl ?_
      refine Rv rfl rfl rfl (U_move rfl) rfl rfl ?_
      refine Rv rfl rfl rfl (U_move rfl) rfl rfl ?_
      refine Rv rfl rfl rfl (U_nilCheckR rfl) rfl rfl ?_
      refine Rv rfl rfl rfl (U_fieldAddrR rfl) rfl rfl ?_
      refine Rv rfl rfl rfl (U_loadA rfl rfl (skN12 _ _ _ _ _ _) (skA12 _ _ _ _ _ _)) rfl rfl ?_
      refine Rv rfl rfl rfl (U_move rfl) rfl rfl ?_
      refine Rn rfl rfl rfl (U_updM (k := (faQ n ks)) (v := bs) (L := (dmK n m ks (L, ck) k).1) rchE rfl rfl rfl rfl) rfl ?_
      refine Re rfl ?_
      refine thenQ_n ?_
      refine W_seq rfl ?_
      refine W_reg rfl ?_
      refine Rv rfl rfl rfl (U_move rfl) rfl rfl ?_
      refine Rv rfl rfl rfl (U_assign rfl) rfl rfl ?_
      refine Re rfl ?_
      refine thenQ_n ?_
      refine W_ret rfl ?_
      exact retTo (T' := [(4, i64 ((bs : Nat) : Int))]) id ⟨eD rfl rfl, trivial⟩ ⟨rMp' (mE_data (fun r => rchE.dk r) (fun _ => rfl) _) rfl (by rw [dM_new hk0, hE, ← hval]) (by rw [dM_new hk0, hE]) rfl, trivial⟩ rfl rfl (fun _ _ => rfl) (rlT rfl rl0) (by first | rfl | (simp only [packA]; rw [hval]; first | done | rfl) | (simp only [packA]; rw [← hval]; rfl; first | done | rfl))
  · have hE : dmE n m ks (L, ck) = (L, ck) := by { unfold dmE; rw [if_neg]; unfold cntQ; omega }
    have hval : 0 = depQ n ks := by { rw [dep_rec hv ha (by omega) hn4, if_neg]; unfold cntQ; omega }
    refine W_skip rfl ?_
    refine thenQ_n ?_
    refine W_seq rfl ?_
    refine W_reg rfl ?_
    refine Rv rfl rfl rfl (U_move rfl) rfl rfl ?_
    refine Rv rfl rfl rfl (U_move rfl) rfl rfl ?_
    refine Rv rfl rfl rfl (U_nilCheckR rfl) rfl rfl ?_
    refine Rv rfl rfl rfl (U_fieldAddrR rfl) rfl rfl ?_
    refine Rv rfl rfl rfl (U_loadA rfl rfl (skN12 _ _ _ _ _ _) (skA12 _ _ _ _ _ _)) rfl rfl ?_
    refine Rv rfl rfl rfl (U_move rfl) rfl rfl ?_
    refine Rn rfl rfl rfl (U_updM (k := (faQ n ks)) (v := 0) (L := L) rchE rfl rfl rfl rfl) rfl ?_
    refine Re rfl ?_
    refine thenQ_n ?_
    refine W_seq rfl ?_
    refine W_reg rfl ?_
    refine Rv rfl rfl rfl (U_move rfl) rfl rfl ?_
    refine Rv rfl rfl rfl (U_assign rfl) rfl rfl ?_
    refine Re rfl ?_
    refine thenQ_n ?_
    refine W_ret rfl ?_
    exact retTo (T' := [(4, i64 0)]) id ⟨eD rfl rfl, trivial⟩ ⟨rMp' (mE_data (fun r => rchE.dk r) (fun _ => rfl) _) rfl (by rw [dM_new hk0, hE, ← hval]) (by rw [dM_new hk0, hE]) rfl, trivial⟩ rfl rfl (fun _ _ => rfl) (rlT rfl rl0) (by first | rfl | (simp only [packA]; rw [hval]; first | done | rfl) | (simp only [packA]; rw [← hval]; rfl; first | done | rfl))
end Go.Proofs.Ythmibifghihdaaa
end

section
namespace Go.Proofs.Ythmibifghihdaaa
set_option maxRecDepth 20000
open Go.AE
theorem dep_m (n : Nat) (hn4 : n ≤ 4) : ∀ (m : Nat) (ks : List (Nat × Nat)) (c : Option Nat) (L : Mr) (ck : Nat), VB n ks → Acy n ks → ks.length + m ≤ 900 → opcQ n ks < m → KO n L → MutP Try.prog 78 [skyP n ks c (seQ ks) (faQ n ks) (briQ n ks), .mapl 0] [(0, some (.map (mE rchA n64 L) ck))] 1 (i64 ((depQ n ks : Nat) : Int)) [(0, some (.map (mE rchA n64 (dM n m ks (L, ck)).1) (dM n m ks (L, ck)).2))] 1
  | 0, ks, c, L, ck, _, _, _, h, _ => absurd h (Nat.not_lt_zero _)
  | m + 1, ks, c, L, ck, hv, ha, hl, ho, hK => by
    cases e : mget L (faQ n ks) with
    | none => exact depN_p n hn4 m (dep_m n hn4 m) ks c L ck hv ha hl ho hK e
    | some v =>
      rw [dM_old (D := (L, ck)) e, ← ko_get hv hK e]
      exact depK_p n ks c L ck v e
theorem ko_nil {n : Nat} : KO n [] := fun k v h => by simp [mget] at h
theorem fewP_o (n : Nat) (ks : List (Nat × Nat)) (c : Option Nat) (hv : VB n ks) (h40 : ks.length ≤ 40) (ha : Acy n ks) (h4 : ¬ n ≤ 4) : Pure Try.prog 77 [bknA n ks c] (.tup [.nilp, i64 4]) := by
  have hv' := hv
  obtain ⟨hn1, hn, hkl, hk⟩ := hv'
  have hk2 := vb_lt hv
  refine pure_of_body Try.func77 (c := body Try.f77) rfl (by simp [Try.ntmps77]) fun w0 Φ0 => ?_
  refine W_seq rfl ?_
  refine W_reg rfl ?_
  refine Rv rfl rfl rfl (U_boxF rfl rfl rfl) rfl rfl ?_
  refine Rv rfl rfl rfl (U_assign rfl) rfl rfl ?_
  refine Rv rfl rfl rfl (U_assign rfl) rfl rfl ?_
  refine Re rfl ?_
  refine thenQ_n ?_
  refine W_seq rfl ?_
  refine W_reg rfl ?_
  refine Rv rfl rfl rfl (U_load2 rfl rfl rfl rfl) rfl rfl ?_
  refine Rv rfl rfl rfl (U_call rfl rfl (ruledC0G_p n ks c hv h40 ha) rfl) rfl rfl ?_
  refine Rv rfl rfl rfl (U_move rfl) rfl rfl ?_
  refine Rv rfl rfl rfl (U_extract rfl rfl) rfl rfl ?_
  refine Rv rfl rfl rfl (U_extract rfl rfl) rfl rfl ?_
  refine Rv rfl rfl rfl (U_assign rfl) rfl rfl ?_
  refine Rv rfl rfl rfl (U_assign rfl) rfl rfl ?_
  refine Re rfl ?_
  refine thenQ_n ?_
  refine W_seq rfl ?_
  refine W_block rfl ?_
  refine W_seq rfl ?_
  refine W_reg rfl ?_
  refine Rv rfl rfl rfl (U_move rfl) rfl rfl ?_
  refine Rv rfl rfl rfl (U_neq rfl rfl) rfl rfl ?_
  refine Rv rfl rfl rfl (U_assign rfl) rfl rfl ?_
  refine Re rfl ?_
  refine thenQ_n ?_
  refine WcondP rfl rfl (fun h => absurd h (by decide)) (fun _ => ?_)
  refine W_seq rfl ?_
  refine W_reg rfl ?_
  refine Rv rfl rfl rfl (U_fieldAddrR rfl) rfl rfl ?_
  refine Rv rfl rfl rfl (U_load1 rfl rfl rfl) rfl rfl ?_
  refine Rv rfl rfl rfl (U_gtr rfl rfl) rfl rfl ?_
  refine Rv rfl rfl rfl (U_assign rfl) rfl rfl ?_
  refine Re rfl ?_
  refine thenQ_n ?_
  refine WcondP rfl rfl (fun hc1 => ?_) (fun hc1 => absurd (by omega) hc1)
  refine W_seq rfl ?_
  refine W_reg rfl ?_
  refine Rv rfl rfl rfl (U_assign rfl) rfl rfl ?_
  refine Rv rfl rfl rfl (U_assign rfl) rfl rfl ?_
  refine Re rfl ?_
  refine thenQ_n ?_
  refine W_ret rfl ?_
  refine blkQ_r ?_
  refine thenQ_r ?_
  exact retL (rlT rfl (rlT rfl rl0)) rfl rfl
theorem fewP_g (n : Nat) (ks : List (Nat × Nat)) (c : Option Nat) (hv : VB n ks) (h40 : ks.length ≤ 40) (ha : Acy n ks) (h4 : n ≤ 4) : Pure Try.prog 77 [bknA n ks c] (.tup [skyP n ks c (seQ ks) (faQ n ks) (briQ n ks), i64 0]) := by
  have hv' := hv
  obtain ⟨hn1, hn, hkl, hk⟩ := hv'
  have hk2 := vb_lt hv
  refine pure_of_body Try.func77 (c := body Try.f77) rfl (by simp [Try.ntmps77]) fun w0 Φ0 => ?_
  refine W_seq rfl ?_
  refine W_reg rfl ?_
  refine Rv rfl rfl rfl (U_boxF rfl rfl rfl) rfl rfl ?_
  refine Rv rfl rfl rfl (U_assign rfl) rfl rfl ?_
  refine Rv rfl rfl rfl (U_assign rfl) rfl rfl ?_
  refine Re rfl ?_
  refine thenQ_n ?_
  refine W_seq rfl ?_
  refine W_reg rfl ?_
  refine Rv rfl rfl rfl (U_load2 rfl rfl rfl rfl) rfl rfl ?_
  refine Rv rfl rfl rfl (U_call rfl rfl (ruledC0G_p n ks c hv h40 ha) rfl) rfl rfl ?_
  refine Rv rfl rfl rfl (U_move rfl) rfl rfl ?_
  refine Rv rfl rfl rfl (U_extract rfl rfl) rfl rfl ?_
  refine Rv rfl rfl rfl (U_extract rfl rfl) rfl rfl ?_
  refine Rv rfl rfl rfl (U_assign rfl) rfl rfl ?_
  refine Rv rfl rfl rfl (U_assign rfl) rfl rfl ?_
  refine Re rfl ?_
  refine thenQ_n ?_
  refine W_seq rfl ?_
  refine W_block rfl ?_
  refine W_seq rfl ?_
  refine W_reg rfl ?_
  refine Rv rfl rfl rfl (U_move rfl) rfl rfl ?_
  refine Rv rfl rfl rfl (U_neq rfl rfl) rfl rfl ?_
  refine Rv rfl rfl rfl (U_assign rfl) rfl rfl ?_
  refine Re rfl ?_
  refine thenQ_n ?_
  refine WcondP rfl rfl (fun h => absurd h (by decide)) (fun _ => ?_)
  refine W_seq rfl ?_
  refine W_reg rfl ?_
  refine Rv rfl rfl rfl (U_fieldAddrR rfl) rfl rfl ?_
  refine Rv rfl rfl rfl (U_load1 rfl rfl rfl) rfl rfl ?_
  refine Rv rfl rfl rfl (U_gtr rfl rfl) rfl rfl ?_
  refine Rv rfl rfl rfl (U_assign rfl) rfl rfl ?_
  refine Re rfl ?_
  refine thenQ_n ?_
  refine WcondP rfl rfl (fun hc1 => absurd hc1 (by omega)) (fun hc1 => ?_)
  refine W_skip rfl ?_
  refine blkQ_n ?_
  refine thenQ_n ?_
  refine W_seq rfl ?_
  refine W_reg rfl ?_
  refine Rv rfl rfl rfl (U_move rfl) rfl rfl ?_
  refine Rv rfl rfl rfl (U_assign rfl) rfl rfl ?_
  refine Rv rfl rfl rfl (U_assign rfl) rfl rfl ?_
  refine Re rfl ?_
  refine thenQ_n ?_
  refine W_ret rfl ?_
  exact retL (rlT rfl (rlT rfl rl0)) rfl rfl
theorem depth_o (n : Nat) (ks : List (Nat × Nat)) (c : Option Nat) (hv : VB n ks) (h40 : ks.length ≤ 40) (ha : Acy n ks) (h4 : ¬ n ≤ 4) : Pure Try.prog 42 [bknA n ks c] (.tup [i64 0, i64 4]) := by
  have hv' := hv
  obtain ⟨hn1, hn, hkl, hk⟩ := hv'
  have hk2 := vb_lt hv
  refine pure_of_body Try.func42 (c := body Try.f42) rfl (by simp [Try.ntmps42]) fun w0 Φ0 => ?_
  refine W_seq rfl ?_
  refine W_reg rfl ?_
  refine Rv rfl rfl rfl (U_boxF rfl rfl rfl) rfl rfl ?_
  refine Rv rfl rfl rfl (U_assign rfl) rfl rfl ?_
  refine Rv rfl rfl rfl (U_assign rfl) rfl rfl ?_
  refine Re rfl ?_
  refine thenQ_n ?_
  refine W_seq rfl ?_
  refine W_reg rfl ?_
  refine Rv rfl rfl rfl (U_load2 rfl rfl rfl rfl) rfl rfl ?_
  refine Rv rfl rfl rfl (U_call rfl rfl (fewP_o n ks c hv h40 ha h4) rfl) rfl rfl ?_
  refine Rv rfl rfl rfl (U_move rfl) rfl rfl ?_
  refine Rv rfl rfl rfl (U_extract rfl rfl) rfl rfl ?_
  refine Rv rfl rfl rfl (U_extract rfl rfl) rfl rfl ?_
  refine Rv rfl rfl rfl (U_assign rfl) rfl rfl ?_
  refine Rv rfl rfl rfl (U_assign rfl) rfl rfl ?_
  refine Re rfl ?_
  refine thenQ_n ?_
  refine W_seq rfl ?_
  refine W_seq rfl ?_
  refine W_reg rfl ?_
  refine Rv rfl rfl rfl (U_move rfl) rfl rfl ?_
  refine Rv rfl rfl rfl (U_neq rfl rfl) rfl rfl ?_
  refine Re rfl ?_
  refine thenQ_n ?_
  refine WcondP rfl rfl (fun _ => ?_) (fun h => absurd (by decide) h)
  refine W_seq rfl ?_
  refine W_reg rfl ?_
  refine Rv rfl rfl rfl (U_move rfl) rfl rfl ?_
  refine Rv rfl rfl rfl (U_assign rfl) rfl rfl ?_
  refine Rv rfl rfl rfl (U_assign rfl) rfl rfl ?_
  refine Re rfl ?_
  refine thenQ_n ?_
  refine W_ret rfl ?_
  refine thenQ_r ?_
  exact retL (rlT rfl (rlT rfl rl0)) rfl rfl
theorem depth_g (n : Nat) (ks : List (Nat × Nat)) (c : Option Nat) (hv : VB n ks) (h40 : ks.length ≤ 40) (ha : Acy n ks) (h4 : n ≤ 4) : Pure Try.prog 42 [bknA n ks c] (.tup [i64 ((depQ n ks : Nat) : Int), i64 0]) := by
  have hv' := hv
  obtain ⟨hn1, hn, hkl, hk⟩ := hv'
  have hk2 := vb_lt hv
  refine pure_of_body Try.func42 (c := body Try.f42) rfl (by simp [Try.ntmps42]) fun w0 Φ0 => ?_
  refine W_seq rfl ?_
  refine W_reg rfl ?_
  refine Rv rfl rfl rfl (U_boxF rfl rfl rfl) rfl rfl ?_
  refine Rv rfl rfl rfl (U_assign rfl) rfl rfl ?_
  refine Rv rfl rfl rfl (U_assign rfl) rfl rfl ?_
  refine Re rfl ?_
  refine thenQ_n ?_
  refine W_seq rfl ?_
  refine W_reg rfl ?_
  refine Rv rfl rfl rfl (U_load2 rfl rfl rfl rfl) rfl rfl ?_
  refine Rv rfl rfl rfl (U_call rfl rfl (fewP_g n ks c hv h40 ha h4) rfl) rfl rfl ?_
  refine Rv rfl rfl rfl (U_move rfl) rfl rfl ?_
  refine Rv rfl rfl rfl (U_extract rfl rfl) rfl rfl ?_
  refine Rv rfl rfl rfl (U_extract rfl rfl) rfl rfl ?_
  refine Rv rfl rfl rfl (U_assign rfl) rfl rfl ?_
  refine Rv rfl rfl rfl (U_assign rfl) rfl rfl ?_
  refine Re rfl ?_
  refine thenQ_n ?_
  refine W_seq rfl ?_
  refine W_seq rfl ?_
  refine W_reg rfl ?_
  refine Rv rfl rfl rfl (U_move rfl) rfl rfl ?_
  refine Rv rfl rfl rfl (U_neq rfl rfl) rfl rfl ?_
  refine Re rfl ?_
  refine thenQ_n ?_
  refine WcondP rfl rfl (fun h => absurd h (by decide)) (fun _ => ?_)
  refine W_skip rfl ?_
  refine thenQ_n ?_
  refine W_seq rfl ?_
  refine W_reg rfl ?_
  refine Rv rfl rfl rfl (U_move rfl) rfl rfl ?_
  refine Ra rfl rfl rfl (U_makeMap) rfl rfl rfl ?_
  refine Ra rfl rfl rfl (U_callT (mapN [0]) rfl rfl (dep_m n h4 7 ks c ([] : Mr) 0 hv ha (by omega) (by have := opcQ_le (n := n) (ks := ks) h4; omega) ko_nil) rfl rfl ⟨rMp (mE_data (fun r => rchE.dk r) (fun _ => rfl) _) rfl rfl, trivial⟩ rfl rfl) rfl rfl rfl ?_
  refine Rto (T' := [(16, i64 ((depQ n ks : Nat) : Int))]) (H' := []) (n := 1) id ⟨eD rfl rfl, trivial⟩ trivial rfl rfl rfl rfl (fun _ _ => rfl) ?_
  refine Rv rfl rfl rfl (U_assign rfl) rfl rfl ?_
  refine Rv rfl rfl rfl (U_assign rfl) rfl rfl ?_
  refine Re rfl ?_
  refine thenQ_n ?_
  refine W_ret rfl ?_
  exact retL (rlT rfl (rlT rfl rl0)) rfl rfl
end Go.Proofs.Ythmibifghihdaaa
end

section
namespace Go.Proofs.Ythmibifghihdaaa
set_option maxRecDepth 20000
open Go.AE
def KN (n : Nat) (ks : List (Nat × Nat)) (L : Mr) : Prop := mget L (faQ n ks) = some (depQ n ks) ∧ ∀ p ∈ prQ n, opB (faQ n ks) p = true → mget L (faQ n (ks ++ [(p.1, p.2)])) = some (depQ n (ks ++ [(p.1, p.2)])) ∧ mget L (faQ n (ks ++ [(p.2, p.1)])) = some (depQ n (ks ++ [(p.2, p.1)]))
theorem fold_mono {n : Nat} {f : Mq → Nat × Nat → Mq} {k : R10} : ∀ (ps : List (Nat × Nat)) (D : Mq), (∀ p ∈ ps, ∀ D : Mq, (mget D.1 k).isSome = true → (mget (f D p).1 k).isSome = true) → (mget D.1 k).isSome = true → (mget (ps.foldl f D).1 k).isSome = true
  | [], _, _, h => h
  | p :: ps, D, hf, h => fold_mono (n := n) ps _ (fun q hq => hf q (by simp [hq])) (hf p (by simp) D h)
theorem dM_mono {n : Nat} {k : R10} : ∀ (m : Nat) (ks : List (Nat × Nat)) (D : Mq), (mget D.1 k).isSome = true → (mget (dM n m ks D).1 k).isSome = true
  | 0, _, _, h => h
  | m + 1, ks, D, h => by
    cases e : mget D.1 (faQ n ks) with
    | some v => rw [dM_old e]; exact h
    | none =>
      rw [dM_new e]
      show (mget (mput _ _ _ _) k).isSome = true
      rw [mgetR]
      split
      · rfl
      · unfold dmE
        split
        · refine fold_mono (n := n) _ _ (fun p _ D hD => ?_) h
          unfold dmS
          split
          · exact dM_mono m _ _ (dM_mono m _ _ hD)
          · exact hD
        · exact h
theorem dM_has {n m : Nat} {ks : List (Nat × Nat)} {D : Mq} : (mget (dM n (m + 1) ks D).1 (faQ n ks)).isSome = true := by
  cases e : mget D.1 (faQ n ks) with
  | some v => rw [dM_old e, e]; rfl
  | none =>
    rw [dM_new e]
    show (mget (mput _ _ _ _) _).isSome = true
    rw [mgetR, if_pos rfl]; rfl
theorem fold_has {n : Nat} {f : Mq → Nat × Nat → Mq} {k : R10} {p : Nat × Nat} : ∀ (ps : List (Nat × Nat)) (D : Mq), p ∈ ps → (∀ p ∈ ps, ∀ D : Mq, (mget D.1 k).isSome = true → (mget (f D p).1 k).isSome = true) → (∀ D : Mq, (mget (f D p).1 k).isSome = true) → (mget (ps.foldl f D).1 k).isSome = true
  | [], _, h, _, _ => by simp at h
  | q :: ps, D, h, h1, h2 => by
    rw [List.foldl_cons]
    rcases List.mem_cons.1 h with rfl | h
    · exact fold_mono (n := n) ps _ (fun q hq => h1 q (by simp [hq])) (h2 D)
    · exact fold_has (n := n) ps _ h (fun q hq => h1 q (by simp [hq])) h2
theorem ko_some {n : Nat} {ks : List (Nat × Nat)} {L : Mr} (hv : VB n ks) (h : KO n L) (e : (mget L (faQ n ks)).isSome = true) : mget L (faQ n ks) = some (depQ n ks) := by
  cases e2 : mget L (faQ n ks) with
  | none => rw [e2] at e; cases e
  | some v => rw [ko_get hv h e2]
theorem kn_ok {n : Nat} {ks : List (Nat × Nat)} (hn : n ≤ 4) (hv : VB n ks) (ha : Acy n ks) (hl : ks.length ≤ 900) : KN n ks (dM n 7 ks ([], 0)).1 := by
  have hK : KO n (dM n 7 ks ([], 0)).1 := dM_ko 7 ks ([], 0) hv (by omega) ko_nil
  refine ⟨ko_some hv hK dM_has, fun p hp ho => ?_⟩
  have hpi := prQ_in hp
  have hv1 := vb_add hv (by omega) (show p.1 < n by omega) hpi.2 (by omega)
  have hv2 := vb_add hv (by omega) hpi.2 (show p.1 < n by omega) (by omega)
  have e : opn (ords n ks) p = opB (faQ n ks) p := opn_ords hv ha (by omega) (x := p.1) (y := p.2) (by omega) hpi.2 (by omega)
  have hc : 1 < cntQ n ks := by
    rw [← e] at ho
    have h1 := opn_T.1 ho
    have h2 := prt_two (L := ords n ks) (x := p.1) (y := p.2)
    rw [ords_len hv] at h2; omega
  have hE : (dM n 7 ks ([], 0)).1 = mput (dmE n 6 ks ([], 0)).2 (dmE n 6 ks ([], 0)).1 (faQ n ks) (depQ n ks) := by rw [dM_new (by simp [mget])]
  have hD : dmE n 6 ks ([], 0) = (prQ n).foldl (dmS n 6 ks) ([], 0) := by unfold dmE dmK; rw [if_pos hc, List.take_length]
  have mono : ∀ (k : R10), ∀ q ∈ prQ n, ∀ D : Mq, (mget D.1 k).isSome = true → (mget (dmS n 6 ks D q).1 k).isSome = true := by
    intro k q _ D h
    unfold dmS
    split
    · exact dM_mono 6 _ _ (dM_mono 6 _ _ h)
    · exact h
  constructor
  · refine ko_some hv1 hK ?_
    rw [hE, mgetR]
    split
    · rfl
    · rw [hD]
      refine fold_has (n := n) _ _ hp (mono _) fun D => ?_
      unfold dmS
      rw [if_pos ho]
      exact dM_mono 6 _ _ dM_has
  · refine ko_some hv2 hK ?_
    rw [hE, mgetR]
    split
    · rfl
    · rw [hD]
      refine fold_has (n := n) _ _ hp (mono _) fun D => ?_
      unfold dmS
      rw [if_pos ho]
      exact dM_has
theorem aft_iff {n : Nat} {ks : List (Nat × Nat)} {p : Nat × Nat} (hv : VB n ks) (ha : Acy n ks) (hl : ks.length ≤ 900) (hp : p ∈ prQ n) : decide (aftQ n ks p < depQ n ks) = gudP (dpQ n) (ords n ks) p := by
  have hpi := prQ_in hp
  have hv1 := vb_add hv (by omega) (show p.1 < n by omega) hpi.2 (by omega)
  have hv2 := vb_add hv (by omega) hpi.2 (show p.1 < n by omega) (by omega)
  have e : opn (ords n ks) p = opB (faQ n ks) p := opn_ords hv ha (by omega) (x := p.1) (y := p.2) (by omega) hpi.2 (by omega)
  unfold gudP aftQ
  rw [prt_ords hv hv1, prt_ords hv hv2]
  by_cases ho : opB (faQ n ks) p = true
  · rw [if_pos ho, Bool.eq_iff_iff, Bool.and_eq_true, decide_eq_true_eq, decide_eq_true_eq, decide_eq_true_eq]
    show max (depQ n (ks ++ [(p.1, p.2)])) (depQ n (ks ++ [(p.2, p.1)])) < depQ n ks ↔ depQ n (ks ++ [(p.1, p.2)]) < depQ n ks ∧ depQ n (ks ++ [(p.2, p.1)]) < depQ n ks
    omega
  · rw [if_neg ho, decide_eq_false (by omega)]
    have h1 : ¬ opn (ords n ks) p = true := by rw [e]; exact ho
    have h2 := prt_sum (fun o ho => (ords_fit hv).2 o ho) (x := p.1) (y := p.2) (L := ords n ks) (by omega) (by omega)
    have h3 : (prt (ords n ks) p.1 p.2).length = 0 ∨ (prt (ords n ks) p.2 p.1).length = 0 := by
      rw [opn_T] at h1; omega
    have full : ∀ {x y : Nat}, (prt (ords n ks) x y).length = (ords n ks).length → prt (ords n ks) x y = ords n ks := fun {x y} h => List.filter_eq_self.2 (List.length_filter_eq_length_iff.1 h)
    symm
    rw [Bool.and_eq_false_iff, decide_eq_false_iff_not, decide_eq_false_iff_not, ← prt_ords hv hv1, ← prt_ords hv hv2]
    rcases h3 with h3 | h3
    · right; rw [full (by omega)]; omega
    · left; rw [full (by omega)]; omega
theorem after_k (n : Nat) (hn4 : n ≤ 4) (ks : List (Nat × Nat)) (c : Option Nat) (L : Mr) (ck : Nat) (hv : VB n ks) (hl : ks.length ≤ 900) (hN : KN n ks L) (a b : Nat) (hp : (a, b) ∈ prQ n) : MutP Try.prog 84 [skyP n ks c (seQ ks) (faQ n ks) (briQ n ks), .agg [i64 (a : Nat), i64 (b : Nat)], .mapl 0] [(0, some (.map (mE rchA n64 L) ck))] 1 (i64 ((aftQ n ks (a, b) : Nat) : Int)) [(0, some (.map (mE rchA n64 L) ck))] 1 := by
  have hv' := hv
  obtain ⟨hn1, hn, hkl, hk⟩ := hv'
  have hk2 := vb_lt hv
  have hpi := prQ_in hp
  have hv1 := vb_add hv (by omega) (show a < n by omega) hpi.2 (show a ≠ b by omega)
  have hv2 := vb_add hv (by omega) hpi.2 (show a < n by omega) (show b ≠ a by omega)
  refine mut_of_body Try.func84 (c := body Try.f84) rfl (by decide) (by simp [Try.ntmps84]) fun w0 Φ0 ρ0 => ?_
  refine W_seq rfl ?_
  refine W_reg rfl ?_
  refine Rv rfl rfl rfl (U_boxF rfl rfl rfl) rfl rfl ?_
  refine Rv rfl rfl rfl (U_assign rfl) rfl rfl ?_
  refine Re rfl ?_
  refine thenQ_n ?_
  refine W_seq rfl ?_
  refine W_seq rfl ?_
  refine W_reg rfl ?_
  refine Rv rfl rfl rfl (U_move rfl) rfl rfl ?_
  refine Rv rfl rfl rfl (U_load2 rfl rfl rfl rfl) rfl rfl ?_
  refine Rv rfl rfl rfl (U_call rfl rfl (open_p n ks c (seQ ks) (faQ n ks) (briQ n ks) a b (by first | assumption | omega) (by first | assumption | omega)) rfl) rfl rfl ?_
  refine Rv rfl rfl rfl (U_not rfl) rfl rfl ?_
  refine Re rfl ?_
  refine thenQ_n ?_
  refine Wcond rfl rfl (fun hc0 => ?_) (fun hc0 => ?_)
  · have hop : ¬ opB (faQ n ks) (a, b) = true := by { intro h; rw [h] at hc0; cases hc0 }
    refine W_seq rfl ?_
    refine W_reg rfl ?_
    refine Rv rfl rfl rfl (U_move rfl) rfl rfl ?_
    refine Rv rfl rfl rfl (U_move rfl) rfl rfl ?_
    refine Ra rfl rfl rfl (U_callT (mapN [0]) rfl rfl (depK_p n ks c L ck (depQ n ks) (by first | assumption | exact hN.1)) rfl rfl ⟨rMp (mE_data (fun r => rchE.dk r) (fun _ => rfl) _) rfl rfl, trivial⟩ rfl rfl) rfl rfl rfl ?_
    refine Rto (T' := [(13, i64 ((depQ n ks : Nat) : Int))]) (H' := [(0, some (.map (mE rchA n64 L) ck))]) (n := 1) id ⟨eD rfl rfl, trivial⟩ ⟨rMM (mE_data (fun r => rchE.dk r) (fun _ => rfl) _) rfl rfl, trivial⟩ rfl rfl rfl rfl (fun _ _ => rfl) ?_
    refine Rv rfl rfl rfl (U_assign rfl) rfl rfl ?_
    refine Re rfl ?_
    refine thenQ_n ?_
    refine W_ret rfl ?_
    refine thenQ_r ?_
    exact retTo (T' := [(6, i64 ((depQ n ks : Nat) : Int))]) id ⟨eD rfl rfl, trivial⟩ ⟨rMp (mE_data (fun r => rchE.dk r) (fun _ => rfl) _) rfl rfl, trivial⟩ rfl rfl (fun _ _ => rfl) (rlT rfl rl0) (by first | rfl | (simp only [packA]; rw [aftQ, if_neg hop]; first | done | rfl) | (simp only [packA]; rw [aftQ, if_pos hop]; first | done | rfl))
  · have hc0' := Bool.eq_false_iff.1 hc0
    have hop : opB (faQ n ks) (a, b) = true := by { cases e : opB (faQ n ks) (a, b); rw [e] at hc0; cases hc0; rfl }
    have hk1 : mget L (faQ n (ks ++ [(a, b)])) = some (depQ n (ks ++ [(a, b)])) := (hN.2 _ hp hop).1
    have hk2 : mget L (faQ n (ks ++ [(b, a)])) = some (depQ n (ks ++ [(b, a)])) := (hN.2 _ hp hop).2
    have hd1 := dep_le hv1 hn4
    have hd2 := dep_le hv2 hn4
    refine W_skip rfl ?_
    refine thenQ_n ?_
    refine W_seq rfl ?_
    refine WdrawC [16, 18, 19, 24, 26, 27] [21, 29] rfl (by kernel_rfl) (by kernel_rfl) ?_
    refine Dv rfl rfl rfl (U_move rfl) rfl rfl ?_
    refine Dv rfl rfl rfl (U_indexAR (j := 0) rfl rfl rfl (by decide)) rfl rfl ?_
    refine Dv rfl rfl rfl (U_load1 rfl rfl rfl) rfl rfl ?_
    refine Dv rfl rfl rfl (U_indexAR (j := 1) rfl rfl rfl (by decide)) rfl rfl ?_
    refine Dv rfl rfl rfl (U_load1 rfl rfl rfl) rfl rfl ?_
    refine Dv rfl rfl rfl (U_call rfl rfl (with_p n ks c (seQ ks) (faQ n ks) (briQ n ks) (by omega) (by omega) (by assumption) a b (by first | assumption | omega) (by first | assumption | omega)) rfl) rfl rfl ?_
    refine Dv rfl rfl rfl (U_move rfl) rfl rfl ?_
    refine Da rfl rfl rfl (OpU.upsE (ups_map1 (mE_data (fun r => rchE.dk r) (fun _ => rfl) _) rfl) (U_callT (mapN [0]) rfl rfl (depK_p n (ks ++ [(a, b)]) none L ck (depQ n (ks ++ [(a, b)])) (by first | assumption | exact hN.1)) rfl rfl ⟨rMp (mE_data (fun r => rchE.dk r) (fun _ => rfl) _) rfl rfl, trivial⟩ rfl rfl)) rfl rfl rfl rfl ?_
    refine Dv rfl rfl rfl (U_move rfl) rfl rfl ?_
    refine Dv rfl rfl rfl (U_indexAR (j := 1) rfl rfl rfl (by decide)) rfl rfl ?_
    refine Dv rfl rfl rfl (U_load1 rfl rfl rfl) rfl rfl ?_
    refine Dv rfl rfl rfl (U_indexAR (j := 0) rfl rfl rfl (by decide)) rfl rfl ?_
    refine Dv rfl rfl rfl (U_load1 rfl rfl rfl) rfl rfl ?_
    refine Dv rfl rfl rfl (U_call rfl rfl (with_p n ks c (seQ ks) (faQ n ks) (briQ n ks) (by omega) (by omega) (by assumption) b a (by first | assumption | omega) (by first | assumption | omega)) rfl) rfl rfl ?_
    refine Dv rfl rfl rfl (U_move rfl) rfl rfl ?_
    refine Da rfl rfl rfl (OpU.upsE (ups_map1 (mE_data (fun r => rchE.dk r) (fun _ => rfl) _) rfl) (U_callT (mapN [0]) rfl rfl (depK_p n (ks ++ [(b, a)]) none L ck (depQ n (ks ++ [(b, a)])) (by first | assumption | exact hN.1)) rfl rfl ⟨rMp (mE_data (fun r => rchE.dk r) (fun _ => rfl) _) rfl rfl, trivial⟩ rfl rfl)) rfl rfl rfl rfl ?_
    refine Dv rfl rfl rfl (U_max (m := (((max (depQ n (ks ++ [(a, b)])) (depQ n (ks ++ [(b, a)]))) : Nat) : Int)) rfl rfl (by omega)) rfl rfl ?_
    refine Dv rfl rfl rfl (U_assign rfl) rfl rfl ?_
    refine Dr.nil rfl ?_
    refine thenQ_n ?_
    refine W_ret rfl ?_
    exact retTo (T' := [(6, i64 ((max (depQ n (ks ++ [(a, b)])) (depQ n (ks ++ [(b, a)])) : Nat) : Int))]) id ⟨eD rfl rfl, trivial⟩ ⟨rMp (mE_data (fun r => rchE.dk r) (fun _ => rfl) _) rfl rfl, trivial⟩ rfl rfl (fun _ _ => rfl) (rlT rfl rl0) (by first | rfl | (simp only [packA]; rw [aftQ, if_neg hop]; first | done | rfl) | (simp only [packA]; rw [aftQ, if_pos hop]; first | done | rfl))
theorem nextC_p (n : Nat) (hn4 : n ≤ 4) (ks : List (Nat × Nat)) (c : Option Nat) (L : Mr) (ck : Nat) (hv : VB n ks) (hl : ks.length ≤ 900) (hN : KN n ks L) (d : Nat) (a b : Nat) (hp : (a, b) ∈ prQ n) : MutP Try.prog 83 [.agg [i64 (a : Nat), i64 (b : Nat)], .ptr 0 0, .ptr 1 0, .ptr 2 0] [(0, some (.cells [.rop (skC n ks c (seQ ks) (faQ n ks) (briQ n ks)) 0] 74)), (1, some (.cells [.mapl 3] 102)), (2, some (.cells [i64 ((d : Nat) : Int)] 3)), (3, some (.map (mE rchA n64 L) ck))] 4 (.bool (decide (aftQ n ks (a, b) < d))) [(0, some (.cells [.rop (skC n ks c (seQ ks) (faQ n ks) (briQ n ks)) 0] 74)), (1, some (.cells [.mapl 3] 102)), (2, some (.cells [i64 ((d : Nat) : Int)] 3)), (3, some (.map (mE rchA n64 L) ck))] 4 := by
  refine mut_of_body Try.func83 (c := body Try.f83) rfl (by decide) (by simp [Try.ntmps83]) fun w0 Φ0 ρ0 => ?_
  refine W_seq rfl ?_
  refine W_reg rfl ?_
  refine Rv rfl rfl rfl (U_boxF rfl rfl rfl) rfl rfl ?_
  refine Rv rfl rfl rfl (U_assign rfl) rfl rfl ?_
  refine Re rfl ?_
  refine thenQ_n ?_
  refine W_seq rfl ?_
  refine WdrawA ((3, .map (mE rchA n64 L) ck)) [7] [10] [9] rfl (by kernel_rfl) (by kernel_rfl) ?_
  refine Dv rfl rfl rfl (U_load1 rfl rfl rfl) rfl rfl ?_
  refine Dv rfl rfl rfl (U_load2 rfl rfl rfl rfl) rfl rfl ?_
  refine Dv rfl rfl rfl (U_load1 rfl rfl rfl) rfl rfl ?_
  refine D7 rfl rfl rfl rfl (OpU.map7 (mE_data (fun r => rchE.dk r) (fun _ => rfl) _) rfl (U_callT (mapN [3]) rfl rfl (after_k n hn4 ks c L ck hv hl hN a b (by assumption)) rfl rfl ⟨rMp (mE_data (fun r => rchE.dk r) (fun _ => rfl) _) rfl rfl, trivial⟩ rfl rfl) rfl) rfl rfl rfl ?_
  refine D6 rfl rfl rfl rfl (U_load1 rfl rfl rfl) (U_load1 rfl rfl rfl) rfl rfl ?_
  refine Dv rfl rfl rfl (U_lss rfl rfl) rfl rfl ?_
  refine Dv rfl rfl rfl (U_assign rfl) rfl rfl ?_
  refine Dr.nil rfl ?_
  refine thenQ_n ?_
  refine W_ret rfl ?_
  exact retTo (T' := [(5, .bool (decide (((aftQ n ks (a, b) : Nat) : Int) < ((d : Nat) : Int))))]) id ⟨eD rfl rfl, trivial⟩ ⟨rD rfl rfl rfl, r_ rfl rfl rfl, rD rfl rfl rfl, rMp (mE_data (fun r => rchE.dk r) (fun _ => rfl) _) rfl rfl, trivial⟩ rfl rfl (fun _ _ => rfl) (rlT rfl rl0) (by first | rfl | (simp only [packA]; congr 1; simp only [Int.ofNat_lt]; first | done | rfl))
def gudA (n : Nat) (ks : List (Nat × Nat)) (d : Nat) (p : Nat × Nat) : Bool := decide (aftQ n ks p < d)
abbrev fndA (o : Option (Nat × Nat)) : AV := .tup [.agg [i64 ((o.getD (0, 0)).1 : Nat), i64 ((o.getD (0, 0)).2 : Nat)], .bool o.isSome]
theorem find_S {g : Nat × Nat → Bool} {l : List (Nat × Nat)} {k : Nat} (hk : k < l.length) (h : (l.take k).find? g = none) (h2 : g l[k] = false) : (l.take (k + 1)).find? g = none := by
  rw [List.take_succ_eq_append_getElem hk, List.find?_append, h]; simp [h2]
theorem find_hit {g : Nat × Nat → Bool} {l : List (Nat × Nat)} {k : Nat} (hk : k < l.length) (h : (l.take k).find? g = none) (h2 : g l[k] = true) : l.find? g = some l[k] := by
  have e : (l.take k ++ l[k] :: l.drop (k + 1)).find? g = some l[k] := by rw [List.find?_append, h, List.find?_cons, h2]; rfl
  rwa [List.getElem_cons_drop, List.take_append_drop] at e
theorem find_gud {n : Nat} {ks : List (Nat × Nat)} (hv : VB n ks) (ha : Acy n ks) (hl : ks.length ≤ 900) : (prQ n).find? (gudA n ks (depQ n ks)) = (prQ n).find? (gudP (dpQ n) (ords n ks)) := by
  have key : ∀ (l : List (Nat × Nat)), (∀ p ∈ l, p ∈ prQ n) → l.find? (gudA n ks (depQ n ks)) = l.find? (gudP (dpQ n) (ords n ks)) := by
    intro l
    induction l with
    | nil => intro _; rfl
    | cons p l ih =>
      intro h
      rw [List.find?_cons, List.find?_cons, ih fun q hq => h q (by simp [hq])]
      rw [gudA, aft_iff hv ha hl (h p (by simp))]
  exact key _ fun p hp => hp
theorem find_p (n : Nat) (hn4 : n ≤ 4) (ks : List (Nat × Nat)) (c : Option Nat) (L : Mr) (ck : Nat) (hv : VB n ks) (hl : ks.length ≤ 900) (hN : KN n ks L) (d : Nat) : MutP Try.prog 81 [lknA (prQ n) none, .fn 83 [] [.ptr 0 0, .ptr 1 0, .ptr 2 0]] [(0, some (.cells [.rop (skC n ks c (seQ ks) (faQ n ks) (briQ n ks)) 0] 74)), (1, some (.cells [.mapl 3] 102)), (2, some (.cells [i64 ((d : Nat) : Int)] 3)), (3, some (.map (mE rchA n64 L) ck))] 4 (fndA ((prQ n).find? (gudA n ks d))) [(0, some (.cells [.rop (skC n ks c (seQ ks) (faQ n ks) (briQ n ks)) 0] 74)), (1, some (.cells [.mapl 3] 102)), (2, some (.cells [i64 ((d : Nat) : Int)] 3)), (3, some (.map (mE rchA n64 L) ck)), (4, some (.cells [i64 ((((prQ n).find? (gudA n ks d)).getD (0, 0)).1), i64 ((((prQ n).find? (gudA n ks d)).getD (0, 0)).2)] 65))] 5 := by
  have hn4_ := hn4
  have hpl := prQ_len hn4
  refine mut_of_body Try.func81 (c := body Try.f81) rfl (by decide) (by simp [Try.ntmps81]) fun w0 Φ0 ρ0 => ?_
  refine W_seq rfl ?_
  refine W_reg rfl ?_
  refine Ra rfl rfl rfl (U_alloc) rfl rfl rfl ?_
  refine Rv rfl rfl rfl (U_assign rfl) rfl rfl ?_
  refine Re rfl ?_
  refine thenQ_n ?_
  refine W_seq rfl ?_
  refine W_seq rfl ?_
  refine W_reg rfl ?_
  refine Rv rfl rfl rfl (U_move rfl) rfl rfl ?_
  refine Rv rfl rfl rfl (U_lenOf rfl len_ros) rfl rfl ?_
  refine Rv rfl rfl rfl (U_move rfl) rfl rfl ?_
  refine Re rfl ?_
  refine thenQ_n ?_
  refine W_block rfl ?_
  refine LoopTo (T' := [(1, .fn 83 [] [.ptr 0 0, .ptr 1 0, .ptr 2 0]), (4, .ptr 4 0), (9, .ros ((prQ n).flatMap lkN) ((prQ n).length) none), (10, i64 (((prQ n).length : Nat) : Int)), (11, i64 ((0 : Nat) : Int))]) (H' := [(0, some (.cells [.rop (skC n ks c (seQ ks) (faQ n ks) (briQ n ks)) 0] 74)), (1, some (.cells [.mapl 3] 102)), (2, some (.cells [i64 ((d : Nat) : Int)] 3)), (3, some (.map (mE rchA n64 L) ck)), (4, some (.cells [i64 0, i64 0] 65))]) (n := 5) rfl (fun mz_ qz_ => ∃ (k : Nat), k ≤ (prQ n).length ∧ ((prQ n).take k).find? (gudA n ks d) = none ∧ mz_ = (prQ n).length - k ∧ qz_ = ⟨[(1, .fn 83 [] [.ptr 0 0, .ptr 1 0, .ptr 2 0]), (4, .ptr 4 0), (9, .ros ((prQ n).flatMap lkN) ((prQ n).length) none), (10, i64 (((prQ n).length : Nat) : Int)), (11, i64 ((k : Nat) : Int))], [(0, some (.cells [.rop (skC n ks c (seQ ks) (faQ n ks) (briQ n ks)) 0] 74)), (1, some (.cells [.mapl 3] 102)), (2, some (.cells [i64 ((d : Nat) : Int)] 3)), (3, some (.map (mE rchA n64 L) ck)), (4, some (.cells [i64 0, i64 0] 65))], 5, []⟩) ⟨0, (by omega), rfl, rfl, rfl⟩ id ⟨e_ rfl rfl, e_ rfl rfl, eD rfl rfl, eD rfl rfl, eD rfl rfl, trivial⟩ ⟨rD rfl rfl rfl, r_ rfl rfl rfl, rD rfl rfl rfl, rMp (mE_data (fun r => rchE.dk r) (fun _ => rfl) _) rfl rfl, rD rfl rfl rfl, trivial⟩ rfl rfl rfl rfl (fun _ _ => rfl) ?_
  rintro _ _ ⟨k, hi0_0, hi0_1, rfl, rfl⟩
  refine W_seq rfl ?_
  refine W_reg rfl ?_
  refine Rv rfl rfl rfl (U_lss rfl rfl) rfl rfl ?_
  refine Re rfl ?_
  refine thenQ_n ?_
  refine W_seq rfl ?_
  refine WcondP rfl rfl (fun hc0 => ?_) (fun hc0 => ?_)
  · have hck : k < (prQ n).length := by omega
    have hpk : ((prQ n)[k].1, (prQ n)[k].2) ∈ prQ n := List.getElem_mem hck
    refine W_skip rfl ?_
    refine thenQ_n ?_
    refine W_seq rfl ?_
    refine W_block rfl ?_
    refine W_seq rfl ?_
    refine W_reg rfl ?_
    have hx1 : k < (prQ n).length := by omega
    refine Rv rfl rfl rfl (U_indexR (j := k) rfl rfl rfl hx1) rfl rfl ?_
    refine Rv rfl rfl rfl (U_load2 rfl rfl (lkH0 hx1) (lkH1 hx1)) rfl rfl ?_
    refine Ra rfl rfl rfl (U_alloc) rfl rfl rfl ?_
    refine Rn rfl rfl rfl (U_storeAll rfl rfl rfl rfl rfl rfl) rfl ?_
    refine Re rfl ?_
    refine thenQ_n ?_
    refine WfrN 5 rfl rfl (T' := [(1, .fn 83 [] [.ptr 0 0, .ptr 1 0, .ptr 2 0]), (4, .ptr 4 0), (7, .rop [i64 ((((prQ n)[k]).1 : Nat) : Int), i64 ((((prQ n)[k]).2 : Nat) : Int)] 0), (9, .ros ((prQ n).flatMap lkN) ((prQ n).length) none), (10, i64 (((prQ n).length : Nat) : Int)), (11, i64 ((k : Nat) : Int))]) (H' := [(0, some (.cells [.rop (skC n ks c (seQ ks) (faQ n ks) (briQ n ks)) 0] 74)), (1, some (.cells [.mapl 3] 102)), (2, some (.cells [i64 ((d : Nat) : Int)] 3)), (3, some (.map (mE rchA n64 L) ck)), (4, some (.cells [i64 0, i64 0] 65))]) ⟨⟨_, rfl, rfl⟩, ⟨_, rfl, rfl⟩, ⟨_, rfl, rfl⟩, ⟨_, rfl, rfl⟩, ⟨_, rfl, rfl⟩, ⟨_, rfl, rfl⟩, trivial⟩ ⟨⟨rfl, rF rfl rfl⟩, ⟨rfl, rF rfl rfl⟩, ⟨rfl, rF rfl rfl⟩, ⟨rfl, rFMp (mE_data (fun r => rchE.dk r) (fun _ => rfl) _) rfl⟩, ⟨rfl, rF rfl rfl⟩, trivial⟩ ?_
    refine W_seq rfl ?_
    refine W_reg rfl ?_
    refine Rv rfl rfl rfl (U_move rfl) rfl rfl ?_
    refine Rv rfl rfl rfl (U_load2 rfl rfl rfl rfl) rfl rfl ?_
    refine Ra rfl rfl rfl (U_callT (mapN [0, 1, 2, 3]) rfl rfl (nextC_p n hn4 ks c L ck hv hl hN d (((prQ n)[k]).1) (((prQ n)[k]).2) (by assumption)) rfl rfl ⟨rD rfl rfl rfl, r_ rfl rfl rfl, rD rfl rfl rfl, rMp (mE_data (fun r => rchE.dk r) (fun _ => rfl) _) rfl rfl, trivial⟩ rfl rfl) rfl rfl rfl ?_
    refine Rto (T' := [(1, .fn 83 [] [.ptr 0 0, .ptr 1 0, .ptr 2 0]), (4, .ptr 4 0), (7, .rop [i64 ((((prQ n)[k]).1 : Nat) : Int), i64 ((((prQ n)[k]).2 : Nat) : Int)] 0), (9, .ros ((prQ n).flatMap lkN) ((prQ n).length) none), (10, i64 (((prQ n).length : Nat) : Int)), (11, i64 ((k : Nat) : Int)), (17, .bool (decide (aftQ n ks ((((prQ n)[k]).1), (((prQ n)[k]).2)) < d)))]) (H' := [(0, some (.cells [.rop (skC n ks c (seQ ks) (faQ n ks) (briQ n ks)) 0] 74)), (1, some (.cells [.mapl 3] 102)), (2, some (.cells [i64 ((d : Nat) : Int)] 3)), (3, some (.map (mE rchA n64 L) ck)), (4, some (.cells [i64 0, i64 0] 65))]) (n := 6) id ⟨e_ rfl rfl, e_ rfl rfl, eD rfl rfl, eD rfl rfl, eD rfl rfl, eD rfl rfl, eD rfl rfl, trivial⟩ ⟨rD rfl rfl rfl, r_ rfl rfl rfl, rD rfl rfl rfl, rMM (mE_data (fun r => rchE.dk r) (fun _ => rfl) _) rfl rfl, rD rfl rfl rfl, trivial⟩ rfl rfl rfl rfl (fun _ _ => rfl) ?_
    refine Re rfl ?_
    refine thenQ_n ?_
    refine WcondP rfl rfl (fun hc1 => ?_) (fun hc1 => ?_)
    · have hgT : (gudA n ks d) (prQ n)[k] = true := decide_eq_true hc1
      refine W_seq rfl ?_
      refine W_reg rfl ?_
      refine Rv rfl rfl rfl (U_load2 rfl rfl rfl rfl) rfl rfl ?_
      refine Rn rfl rfl rfl (U_storeAll rfl rfl rfl rfl rfl rfl) rfl ?_
      refine Rv rfl rfl rfl (U_assign rfl) rfl rfl ?_
      refine Re rfl ?_
      refine thenQ_n ?_
      refine W_ret rfl ?_
      refine blkQ_r ?_
      refine thenQ_r ?_
      refine thenQ_r ?_
      refine blkQ_r ?_
      refine thenQ_r ?_
      first | rw [find_hit hck hi0_1 hgT] | rw [hend]
      exact retTo (T' := [(4, .ptr 4 0), (5, .bool true)]) id ⟨e_ rfl rfl, eD rfl rfl, trivial⟩ ⟨rD rfl rfl rfl, r_ rfl rfl rfl, rD rfl rfl rfl, rMp (mE_data (fun r => rchE.dk r) (fun _ => rfl) _) rfl rfl, rD rfl rfl rfl, trivial⟩ rfl rfl (fun _ _ => rfl) (rlA rfl rfl rfl (rlT rfl rl0)) (by first | rfl | (simp only [packA]; rfl; first | done | rfl))
    · have hgF : (gudA n ks d) (prQ n)[k] = false := decide_eq_false hc1
      refine W_skip rfl ?_
      refine blkQ_n ?_
      refine thenQ_n ?_
      refine W_reg rfl ?_
      refine Rv rfl rfl rfl (U_add rfl rfl (w64e (m := ((k + 1 : Nat) : Int)) (by omega) (by omega) (by omega))) rfl rfl ?_
      refine Rv rfl rfl rfl (U_move rfl) rfl rfl ?_
      refine Re rfl ?_
      refine thenQ_n ?_
      exact againTo (T' := [(1, .fn 83 [] [.ptr 0 0, .ptr 1 0, .ptr 2 0]), (4, .ptr 4 0), (9, .ros ((prQ n).flatMap lkN) ((prQ n).length) none), (10, i64 (((prQ n).length : Nat) : Int)), (11, i64 (((k + 1) : Nat) : Int))]) (H' := [(0, some (.cells [.rop (skC n ks c (seQ ks) (faQ n ks) (briQ n ks)) 0] 74)), (1, some (.cells [.mapl 3] 102)), (2, some (.cells [i64 ((d : Nat) : Int)] 3)), (3, some (.map (mE rchA n64 L) ck)), (4, some (.cells [i64 0, i64 0] 65))]) (n := 5) ((prQ n).length - (k + 1)) ⟨k + 1, (by omega), (find_S hck hi0_1 hgF), rfl, rfl⟩ (by omega) id ⟨e_ rfl rfl, e_ rfl rfl, eD rfl rfl, eD rfl rfl, eD rfl rfl, trivial⟩ ⟨rD rfl rfl rfl, r_ rfl rfl rfl, rD rfl rfl rfl, rMp (mE_data (fun r => rchE.dk r) (fun _ => rfl) _) rfl rfl, rD rfl rfl rfl, trivial⟩ rfl rfl rfl rfl (fun _ _ => rfl)
  · have hend : (prQ n).find? (gudA n ks d) = none := by { rw [List.take_of_length_le (by omega)] at hi0_1; exact hi0_1 }
    refine W_exit rfl ?_
    refine thenQ_x ?_
    refine thenQ_x ?_
    refine blkQ_x rfl ?_
    refine thenQ_n ?_
    refine W_seq rfl ?_
    refine W_reg rfl ?_
    refine Ra rfl rfl rfl (U_alloc) rfl rfl rfl ?_
    refine Re rfl ?_
    refine thenQ_n ?_
    refine WfrN 5 rfl rfl (T' := [(4, .ptr 4 0), (8, .rop [i64 0, i64 0] 0)]) (H' := [(0, some (.cells [.rop (skC n ks c (seQ ks) (faQ n ks) (briQ n ks)) 0] 74)), (1, some (.cells [.mapl 3] 102)), (2, some (.cells [i64 ((d : Nat) : Int)] 3)), (3, some (.map (mE rchA n64 L) ck)), (4, some (.cells [i64 0, i64 0] 65))]) ⟨⟨_, rfl, rfl⟩, ⟨_, rfl, rfl⟩, trivial⟩ ⟨⟨rfl, rF rfl rfl⟩, ⟨rfl, rF rfl rfl⟩, ⟨rfl, rF rfl rfl⟩, ⟨rfl, rFMp (mE_data (fun r => rchE.dk r) (fun _ => rfl) _) rfl⟩, ⟨rfl, rF rfl rfl⟩, trivial⟩ ?_
    refine W_seq rfl ?_
    refine W_reg rfl ?_
    refine Rv rfl rfl rfl (U_load2 rfl rfl rfl rfl) rfl rfl ?_
    refine Rn rfl rfl rfl (U_storeAll rfl rfl rfl rfl rfl rfl) rfl ?_
    refine Rv rfl rfl rfl (U_assign rfl) rfl rfl ?_
    refine Re rfl ?_
    refine thenQ_n ?_
    refine W_ret rfl ?_
    first | rw [find_hit hck hi0_1 hgT] | rw [hend]
    exact retTo (T' := [(4, .ptr 4 0), (5, .bool false)]) id ⟨e_ rfl rfl, eD rfl rfl, trivial⟩ ⟨rD rfl rfl rfl, r_ rfl rfl rfl, rD rfl rfl rfl, rMp (mE_data (fun r => rchE.dk r) (fun _ => rfl) _) rfl rfl, rD rfl rfl rfl, trivial⟩ rfl rfl (fun _ _ => rfl) (rlA rfl rfl rfl (rlT rfl rl0)) (by first | rfl | (simp only [packA]; rfl; first | done | rfl))
end Go.Proofs.Ythmibifghihdaaa
end

section
namespace Go.Proofs.Ythmibifghihdaaa
set_option maxRecDepth 20000
open Go.AE
theorem nx_none {o : Option (Nat × Nat)} (h : o.isSome = false) : AV.tup [i64 0, i64 0, i64 5] = nxtA o := by
  cases o with
  | none => rfl
  | some _ => cases h
theorem nx_some {o : Option (Nat × Nat)} (h : o.isSome = true) : AV.tup [i64 ((o.getD (0, 0)).1 : Nat), i64 ((o.getD (0, 0)).2 : Nat), i64 0] = nxtA o := by
  cases o with
  | none => cases h
  | some _ => rfl
theorem next_g (n : Nat) (ks : List (Nat × Nat)) (c : Option Nat) (hv : VB n ks) (h40 : ks.length ≤ 40) (ha : Acy n ks) (h4 : n ≤ 4) : Pure Try.prog 44 [bknA n ks c] (nxtA ((prQ n).find? (gudP (dpQ n) (ords n ks)))) := by
  have hv' := hv
  obtain ⟨hn1, hn, hkl, hk⟩ := hv'
  have hk2 := vb_lt hv
  have hN := kn_ok h4 hv ha (by omega)
  refine pure_of_body Try.func44 (c := body Try.f44) rfl (by simp [Try.ntmps44]) fun w0 Φ0 => ?_
  refine W_seq rfl ?_
  refine W_reg rfl ?_
  refine Rv rfl rfl rfl (U_boxF rfl rfl rfl) rfl rfl ?_
  refine Rv rfl rfl rfl (U_assign rfl) rfl rfl ?_
  refine Rv rfl rfl rfl (U_assign rfl) rfl rfl ?_
  refine Rv rfl rfl rfl (U_assign rfl) rfl rfl ?_
  refine Re rfl ?_
  refine thenQ_n ?_
  refine W_seq rfl ?_
  refine W_reg rfl ?_
  refine Rv rfl rfl rfl (U_load2 rfl rfl rfl rfl) rfl rfl ?_
  refine Rv rfl rfl rfl (U_call rfl rfl (fewP_g n ks c hv h40 ha h4) rfl) rfl rfl ?_
  refine Rv rfl rfl rfl (U_move rfl) rfl rfl ?_
  refine Rv rfl rfl rfl (U_extract rfl rfl) rfl rfl ?_
  refine Rv rfl rfl rfl (U_extract rfl rfl) rfl rfl ?_
  refine Ra rfl rfl rfl (U_alloc) rfl rfl rfl ?_
  refine Rn rfl rfl rfl (U_store1 rfl rfl rfl rfl) rfl ?_
  refine Rv rfl rfl rfl (U_assign rfl) rfl rfl ?_
  refine Re rfl ?_
  refine thenQ_n ?_
  refine W_seq rfl ?_
  refine W_seq rfl ?_
  refine W_reg rfl ?_
  refine Rv rfl rfl rfl (U_move rfl) rfl rfl ?_
  refine Rv rfl rfl rfl (U_neq rfl rfl) rfl rfl ?_
  refine Re rfl ?_
  refine thenQ_n ?_
  refine WcondP rfl rfl (fun h => absurd h (by decide)) (fun _ => ?_)
  refine W_skip rfl ?_
  refine thenQ_n ?_
  refine W_seq rfl ?_
  refine W_reg rfl ?_
  refine Ra rfl rfl rfl (U_makeMap) rfl rfl rfl ?_
  refine Ra rfl rfl rfl (U_alloc) rfl rfl rfl ?_
  refine Rn rfl rfl rfl (U_store1 rfl rfl rfl rfl) rfl ?_
  refine Re rfl ?_
  refine thenQ_n ?_
  refine W_seq rfl ?_
  refine W_reg rfl ?_
  refine Rv rfl rfl rfl (U_load1 rfl rfl rfl) rfl rfl ?_
  refine Rv rfl rfl rfl (U_load1 rfl rfl rfl) rfl rfl ?_
  refine Ra rfl rfl rfl (U_callT (mapN [1]) rfl rfl (dep_m n h4 7 ks c ([] : Mr) 0 hv ha (by omega) (by have := opcQ_le (n := n) (ks := ks) h4; omega) ko_nil) rfl rfl ⟨rMp (mE_data (fun r => rchE.dk r) (fun _ => rfl) _) rfl rfl, trivial⟩ rfl rfl) rfl rfl rfl ?_
  refine Rto (T' := [(5, .ptr 0 0), (7, .ptr 2 0), (22, i64 ((depQ n ks : Nat) : Int))]) (H' := [(0, some (.cells [.rop (skC n ks c (seQ ks) (faQ n ks) (briQ n ks)) 0] 74)), (1, some (.map (mE rchA n64 ((dM n 7 ks ([], 0)).1)) ((dM n 7 ks ([], 0)).2))), (2, some (.cells [.mapl 1] 102))]) (n := 3) id ⟨e_ rfl rfl, e_ rfl rfl, eD rfl rfl, trivial⟩ ⟨rD rfl rfl rfl, rMM (mE_data (fun r => rchE.dk r) (fun _ => rfl) _) rfl rfl, r_ rfl rfl rfl, trivial⟩ rfl rfl rfl rfl (fun _ _ => rfl) ?_
  refine Ra rfl rfl rfl (U_alloc) rfl rfl rfl ?_
  refine Rn rfl rfl rfl (U_store1 rfl rfl rfl rfl) rfl ?_
  refine Re rfl ?_
  refine thenQ_n ?_
  refine W_seq rfl ?_
  refine W_reg rfl ?_
  refine Rv rfl rfl rfl (U_load1 rfl rfl rfl) rfl rfl ?_
  refine Rv rfl rfl rfl (U_call rfl rfl (pairs_p n ks c (seQ ks) (faQ n ks) (briQ n ks) (by first | assumption | omega)) rfl) rfl rfl ?_
  refine Rv rfl rfl rfl (U_makeFunc rfl rfl) rfl rfl ?_
  refine Ra rfl rfl rfl (U_callT (mapN [0, 2, 3, 1]) rfl rfl (find_p n h4 ks c ((dM n 7 ks ([], 0)).1) ((dM n 7 ks ([], 0)).2) hv (by omega) hN (depQ n ks)) rfl rfl ⟨rD rfl rfl rfl, r_ rfl rfl rfl, rD rfl rfl rfl, rMp (mE_data (fun r => rchE.dk r) (fun _ => rfl) _) rfl rfl, trivial⟩ rfl rfl) rfl rfl rfl ?_
  refine Rto (T' := [(27, .tup [.agg [i64 (((((prQ n).find? (gudA n ks (depQ n ks))).getD (0, 0)).1 : Nat) : Int), i64 (((((prQ n).find? (gudA n ks (depQ n ks))).getD (0, 0)).2 : Nat) : Int)], .bool (((prQ n).find? (gudA n ks (depQ n ks))).isSome)])]) (H' := []) (n := 5) id ⟨eD rfl rfl, trivial⟩ trivial rfl rfl rfl rfl (fun _ _ => rfl) ?_
  refine Rv rfl rfl rfl (U_move rfl) rfl rfl ?_
  refine Rv rfl rfl rfl (U_extract rfl rfl) rfl rfl ?_
  refine Rv rfl rfl rfl (U_extract rfl rfl) rfl rfl ?_
  refine Ra rfl rfl rfl (U_alloc) rfl rfl rfl ?_
  refine Rn rfl rfl rfl (U_storeAll rfl rfl rfl rfl rfl rfl) rfl ?_
  refine Rv rfl rfl rfl (U_assign rfl) rfl rfl ?_
  refine Re rfl ?_
  refine thenQ_n ?_
  refine WfrN 5 rfl rfl (T' := [(9, .rop [i64 (((((prQ n).find? (gudA n ks (depQ n ks))).getD (0, 0)).1 : Nat) : Int), i64 (((((prQ n).find? (gudA n ks (depQ n ks))).getD (0, 0)).2 : Nat) : Int)] 0), (10, .bool (((prQ n).find? (gudA n ks (depQ n ks))).isSome))]) (H' := []) ⟨⟨_, rfl, rfl⟩, ⟨_, rfl, rfl⟩, trivial⟩ trivial ?_
  refine W_seq rfl ?_
  refine W_seq rfl ?_
  refine W_reg rfl ?_
  refine Rv rfl rfl rfl (U_move rfl) rfl rfl ?_
  refine Rv rfl rfl rfl (U_not rfl) rfl rfl ?_
  refine Re rfl ?_
  refine thenQ_n ?_
  refine Wcond rfl rfl (fun hc1 => ?_) (fun hc1 => ?_)
  · refine W_seq rfl ?_
    refine W_reg rfl ?_
    refine Rv rfl rfl rfl (U_assign rfl) rfl rfl ?_
    refine Rv rfl rfl rfl (U_assign rfl) rfl rfl ?_
    refine Rv rfl rfl rfl (U_assign rfl) rfl rfl ?_
    refine Re rfl ?_
    refine thenQ_n ?_
    refine W_ret rfl ?_
    refine thenQ_r ?_
    exact retL (rlT rfl (rlT rfl (rlT rfl rl0))) (by first | rfl | (simp only [packA]; rw [← find_gud hv ha (by omega)]; exact nx_none (by simpa using hc1); first | done | rfl) | (simp only [packA]; rw [← find_gud hv ha (by omega)]; exact nx_some (by simpa using hc1); first | done | rfl)) rfl
  · have hc1' := Bool.eq_false_iff.1 hc1
    refine W_skip rfl ?_
    refine thenQ_n ?_
    refine W_seq rfl ?_
    refine Wdraw rfl (by kernel_rfl) (by kernel_rfl) ?_
    refine Dv rfl rfl rfl (U_indexAR (j := 0) rfl rfl rfl (by decide)) rfl rfl ?_
    refine Dv rfl rfl rfl (U_load1 rfl rfl rfl) rfl rfl ?_
    refine Dv rfl rfl rfl (U_indexAR (j := 1) rfl rfl rfl (by decide)) rfl rfl ?_
    refine Dv rfl rfl rfl (U_load1 rfl rfl rfl) rfl rfl ?_
    refine Dv rfl rfl rfl (U_assign rfl) rfl rfl ?_
    refine Dv rfl rfl rfl (U_assign rfl) rfl rfl ?_
    refine Dv rfl rfl rfl (U_assign rfl) rfl rfl ?_
    refine Dr.nil rfl ?_
    refine thenQ_n ?_
    refine W_ret rfl ?_
    exact retL (rlT rfl (rlT rfl (rlT rfl rl0))) (by first | rfl | (simp only [packA]; rw [← find_gud hv ha (by omega)]; exact nx_none (by simpa using hc1); first | done | rfl) | (simp only [packA]; rw [← find_gud hv ha (by omega)]; exact nx_some (by simpa using hc1); first | done | rfl)) rfl
end Go.Proofs.Ythmibifghihdaaa
end

section
namespace Go.Proofs.Ythmibifghihdaaa
set_option maxRecDepth 20000
open Go.AE
theorem ints_p (a b : List Nat) (c d : Option Nat) (ha : a.length ≤ 1000000) (hb : b.length ≤ 1000000) : Pure Try.prog 32 [natsA a c, natsA b d] (.bool (decide (a = b))) := by
  refine pure_of_body Try.func32 (c := body Try.f32) rfl (by simp [Try.ntmps32]) fun w0 Φ0 => ?_
  refine W_seq rfl ?_
  refine W_reg rfl ?_
  refine Rv rfl rfl rfl (U_assign rfl) rfl rfl ?_
  refine Re rfl ?_
  refine thenQ_n ?_
  refine W_seq rfl ?_
  refine W_seq rfl ?_
  refine W_reg rfl ?_
  refine Rv rfl rfl rfl (U_move rfl) rfl rfl ?_
  refine Rv rfl rfl rfl (U_lenOf rfl len_ros) rfl rfl ?_
  refine Rv rfl rfl rfl (U_move rfl) rfl rfl ?_
  refine Rv rfl rfl rfl (U_lenOf rfl len_ros) rfl rfl ?_
  refine Rv rfl rfl rfl (U_neq rfl rfl) rfl rfl ?_
  refine Re rfl ?_
  refine thenQ_n ?_
  refine WcondP rfl rfl (fun hc0 => ?_) (fun hc0 => ?_)
  · refine W_seq rfl ?_
    refine W_reg rfl ?_
    refine Rv rfl rfl rfl (U_assign rfl) rfl rfl ?_
    refine Re rfl ?_
    refine thenQ_n ?_
    refine W_ret rfl ?_
    refine thenQ_r ?_
    exact retL (rlT rfl rl0) (by first | rfl | (first | exact congrArg AV.bool (decide_eq_true (list_eq (by omega) fun j h1 h2 => hi0_1 j h1 h2 (by omega))).symm | exact congrArg AV.bool (decide_eq_false (list_ne (by omega) (by omega) (by omega))).symm | exact congrArg AV.bool (decide_eq_false fun h => by subst h; omega).symm; done)) rfl
  · rw [Decidable.not_not] at hc0
    refine W_skip rfl ?_
    refine thenQ_n ?_
    refine W_seq rfl ?_
    refine W_seq rfl ?_
    refine W_reg rfl ?_
    refine Rv rfl rfl rfl (U_assign rfl) rfl rfl ?_
    refine Re rfl ?_
    refine thenQ_n ?_
    refine W_block rfl ?_
    refine LoopTo (T' := [(0, .ros (a.map n64) a.length c), (1, .ros (b.map n64) b.length d), (5, i64 ((0 : Nat) : Int))]) (H' := []) (n := 0) rfl (fun mz_ qz_ => ∃ (i : Nat), i ≤ a.length ∧ ((∀ j (h1 : j < a.length) (h2 : j < b.length), j < i → a[j] = b[j])) ∧ mz_ = a.length - i ∧ qz_ = ⟨[(0, .ros (a.map n64) a.length c), (1, .ros (b.map n64) b.length d), (5, i64 ((i : Nat) : Int))], [], 0, []⟩) ⟨0, (by omega), (fun j _ _ h => absurd h (Nat.not_lt_zero _)), rfl, rfl⟩ id ⟨eD rfl rfl, eD rfl rfl, eD rfl rfl, trivial⟩ trivial rfl rfl rfl rfl (fun _ _ => rfl) ?_
    rintro _ _ ⟨i, hi0_0, hi0_1, rfl, rfl⟩
    refine W_seq rfl ?_
    refine W_seq rfl ?_
    refine W_reg rfl ?_
    refine Rv rfl rfl rfl (U_move rfl) rfl rfl ?_
    refine Rv rfl rfl rfl (U_move rfl) rfl rfl ?_
    refine Rv rfl rfl rfl (U_lenOf rfl len_ros) rfl rfl ?_
    refine Rv rfl rfl rfl (U_lss rfl rfl) rfl rfl ?_
    refine Re rfl ?_
    refine thenQ_n ?_
    refine WcondP rfl rfl (fun hc1 => ?_) (fun hc1 => ?_)
    · have hib : i < b.length := by omega
      refine W_skip rfl ?_
      refine thenQ_n ?_
      refine W_seq rfl ?_
      refine W_block rfl ?_
      refine W_seq rfl ?_
      refine Wdraw rfl (by kernel_rfl) (by kernel_rfl) ?_
      refine Dv rfl rfl rfl (U_move rfl) rfl rfl ?_
      refine Dv rfl rfl rfl (U_move rfl) rfl rfl ?_
      have hx1 : i < a.length := by omega
      refine Dv rfl rfl rfl (U_indexR (j := i) rfl rfl rfl hx1) rfl rfl ?_
      refine Dv rfl rfl rfl (U_load1 rfl rfl (getM hx1)) rfl rfl ?_
      refine Dv rfl rfl rfl (U_move rfl) rfl rfl ?_
      refine Dv rfl rfl rfl (U_move rfl) rfl rfl ?_
      have hx2 : i < b.length := by omega
      refine Dv rfl rfl rfl (U_indexR (j := i) rfl rfl rfl hx2) rfl rfl ?_
      refine Dv rfl rfl rfl (U_load1 rfl rfl (getM hx2)) rfl rfl ?_
      refine Dv rfl rfl rfl (U_neq rfl rfl) rfl rfl ?_
      refine Dr.nil rfl ?_
      refine thenQ_n ?_
      refine WcondP rfl rfl (fun hc2 => ?_) (fun hc2 => ?_)
      · refine W_seq rfl ?_
        refine W_reg rfl ?_
        refine Rv rfl rfl rfl (U_assign rfl) rfl rfl ?_
        refine Re rfl ?_
        refine thenQ_n ?_
        refine W_ret rfl ?_
        refine blkQ_r ?_
        refine thenQ_r ?_
        refine thenQ_r ?_
        refine blkQ_r ?_
        refine thenQ_r ?_
        exact retL (rlT rfl rl0) (by first | rfl | (first | exact congrArg AV.bool (decide_eq_true (list_eq (by omega) fun j h1 h2 => hi0_1 j h1 h2 (by omega))).symm | exact congrArg AV.bool (decide_eq_false (list_ne (by omega) (by omega) (by omega))).symm | exact congrArg AV.bool (decide_eq_false fun h => by subst h; omega).symm; done)) rfl
      · rw [Decidable.not_not] at hc2
        refine W_skip rfl ?_
        refine blkQ_n ?_
        refine thenQ_n ?_
        refine W_reg rfl ?_
        refine Rv rfl rfl rfl (U_move rfl) rfl rfl ?_
        refine Rv rfl rfl rfl (U_add rfl rfl (w64e (m := ((i + 1 : Nat) : Int)) (by omega) (by omega) (by omega))) rfl rfl ?_
        refine Rv rfl rfl rfl (U_assign rfl) rfl rfl ?_
        refine Re rfl ?_
        refine thenQ_n ?_
        exact againTo (T' := [(0, .ros (a.map n64) a.length c), (1, .ros (b.map n64) b.length d), (5, i64 (((i + 1) : Nat) : Int))]) (H' := []) (n := 0) (a.length - (i + 1)) ⟨i + 1, (by omega), (by intro j h1 h2 h3; rcases Nat.lt_succ_iff_lt_or_eq.1 h3 with h4 | rfl; exact hi0_1 j h1 h2 h4; omega), rfl, rfl⟩ (by omega) id ⟨eD rfl rfl, eD rfl rfl, eD rfl rfl, trivial⟩ trivial rfl rfl rfl rfl (fun _ _ => rfl)
    · refine W_exit rfl ?_
      refine thenQ_x ?_
      refine thenQ_x ?_
      refine blkQ_x rfl ?_
      refine thenQ_n ?_
      refine W_seq rfl ?_
      refine W_reg rfl ?_
      refine Rv rfl rfl rfl (U_assign rfl) rfl rfl ?_
      refine Re rfl ?_
      refine thenQ_n ?_
      refine W_ret rfl ?_
      exact retL (rlT rfl rl0) (by first | rfl | (first | exact congrArg AV.bool (decide_eq_true (list_eq (by omega) fun j h1 h2 => hi0_1 j h1 h2 (by omega))).symm | exact congrArg AV.bool (decide_eq_false (list_ne (by omega) (by omega) (by omega))).symm | exact congrArg AV.bool (decide_eq_false fun h => by subst h; omega).symm; done)) rfl
theorem longs_p (a b : List Nat) (c d : Option Nat) (ha : a.length ≤ 1000000) (hb : b.length ≤ 1000000) : Pure Try.prog 41 [natsA a c, natsA b d] (.bool (decide (a = b))) := by
  refine pure_of_body Try.func41 (c := body Try.f41) rfl (by simp [Try.ntmps41]) fun w0 Φ0 => ?_
  refine W_seq rfl ?_
  refine W_reg rfl ?_
  refine Rv rfl rfl rfl (U_assign rfl) rfl rfl ?_
  refine Re rfl ?_
  refine thenQ_n ?_
  refine W_seq rfl ?_
  refine W_seq rfl ?_
  refine W_reg rfl ?_
  refine Rv rfl rfl rfl (U_move rfl) rfl rfl ?_
  refine Rv rfl rfl rfl (U_lenOf rfl len_ros) rfl rfl ?_
  refine Rv rfl rfl rfl (U_move rfl) rfl rfl ?_
  refine Rv rfl rfl rfl (U_lenOf rfl len_ros) rfl rfl ?_
  refine Rv rfl rfl rfl (U_neq rfl rfl) rfl rfl ?_
  refine Re rfl ?_
  refine thenQ_n ?_
  refine WcondP rfl rfl (fun hc0 => ?_) (fun hc0 => ?_)
  · refine W_seq rfl ?_
    refine W_reg rfl ?_
    refine Rv rfl rfl rfl (U_assign rfl) rfl rfl ?_
    refine Re rfl ?_
    refine thenQ_n ?_
    refine W_ret rfl ?_
    refine thenQ_r ?_
    exact retL (rlT rfl rl0) (by first | rfl | (first | exact congrArg AV.bool (decide_eq_true (list_eq (by omega) fun j h1 h2 => hi0_1 j h1 h2 (by omega))).symm | exact congrArg AV.bool (decide_eq_false (list_ne (by omega) (by omega) (by omega))).symm | exact congrArg AV.bool (decide_eq_false fun h => by subst h; omega).symm; done)) rfl
  · rw [Decidable.not_not] at hc0
    refine W_skip rfl ?_
    refine thenQ_n ?_
    refine W_seq rfl ?_
    refine W_seq rfl ?_
    refine W_reg rfl ?_
    refine Rv rfl rfl rfl (U_assign rfl) rfl rfl ?_
    refine Re rfl ?_
    refine thenQ_n ?_
    refine W_block rfl ?_
    refine LoopTo (T' := [(0, .ros (a.map n64) a.length c), (1, .ros (b.map n64) b.length d), (5, i64 ((0 : Nat) : Int))]) (H' := []) (n := 0) rfl (fun mz_ qz_ => ∃ (i : Nat), i ≤ a.length ∧ ((∀ j (h1 : j < a.length) (h2 : j < b.length), j < i → a[j] = b[j])) ∧ mz_ = a.length - i ∧ qz_ = ⟨[(0, .ros (a.map n64) a.length c), (1, .ros (b.map n64) b.length d), (5, i64 ((i : Nat) : Int))], [], 0, []⟩) ⟨0, (by omega), (fun j _ _ h => absurd h (Nat.not_lt_zero _)), rfl, rfl⟩ id ⟨eD rfl rfl, eD rfl rfl, eD rfl rfl, trivial⟩ trivial rfl rfl rfl rfl (fun _ _ => rfl) ?_
    rintro _ _ ⟨i, hi0_0, hi0_1, rfl, rfl⟩
    refine W_seq rfl ?_
    refine W_seq rfl ?_
    refine W_reg rfl ?_
    refine Rv rfl rfl rfl (U_move rfl) rfl rfl ?_
    refine Rv rfl rfl rfl (U_move rfl) rfl rfl ?_
    refine Rv rfl rfl rfl (U_lenOf rfl len_ros) rfl rfl ?_
    refine Rv rfl rfl rfl (U_lss rfl rfl) rfl rfl ?_
    refine Re rfl ?_
    refine thenQ_n ?_
    refine WcondP rfl rfl (fun hc1 => ?_) (fun hc1 => ?_)
    · have hib : i < b.length := by omega
      refine W_skip rfl ?_
      refine thenQ_n ?_
      refine W_seq rfl ?_
      refine W_block rfl ?_
      refine W_seq rfl ?_
      refine Wdraw rfl (by kernel_rfl) (by kernel_rfl) ?_
      refine Dv rfl rfl rfl (U_move rfl) rfl rfl ?_
      refine Dv rfl rfl rfl (U_move rfl) rfl rfl ?_
      have hx1 : i < a.length := by omega
      refine Dv rfl rfl rfl (U_indexR (j := i) rfl rfl rfl hx1) rfl rfl ?_
      refine Dv rfl rfl rfl (U_load1 rfl rfl (getM hx1)) rfl rfl ?_
      refine Dv rfl rfl rfl (U_move rfl) rfl rfl ?_
      refine Dv rfl rfl rfl (U_move rfl) rfl rfl ?_
      have hx2 : i < b.length := by omega
      refine Dv rfl rfl rfl (U_indexR (j := i) rfl rfl rfl hx2) rfl rfl ?_
      refine Dv rfl rfl rfl (U_load1 rfl rfl (getM hx2)) rfl rfl ?_
      refine Dv rfl rfl rfl (U_neq rfl rfl) rfl rfl ?_
      refine Dr.nil rfl ?_
      refine thenQ_n ?_
      refine WcondP rfl rfl (fun hc2 => ?_) (fun hc2 => ?_)
      · refine W_seq rfl ?_
        refine W_reg rfl ?_
        refine Rv rfl rfl rfl (U_assign rfl) rfl rfl ?_
        refine Re rfl ?_
        refine thenQ_n ?_
        refine W_ret rfl ?_
        refine blkQ_r ?_
        refine thenQ_r ?_
        refine thenQ_r ?_
        refine blkQ_r ?_
        refine thenQ_r ?_
        exact retL (rlT rfl rl0) (by first | rfl | (first | exact congrArg AV.bool (decide_eq_true (list_eq (by omega) fun j h1 h2 => hi0_1 j h1 h2 (by omega))).symm | exact congrArg AV.bool (decide_eq_false (list_ne (by omega) (by omega) (by omega))).symm | exact congrArg AV.bool (decide_eq_false fun h => by subst h; omega).symm; done)) rfl
      · rw [Decidable.not_not] at hc2
        refine W_skip rfl ?_
        refine blkQ_n ?_
        refine thenQ_n ?_
        refine W_reg rfl ?_
        refine Rv rfl rfl rfl (U_move rfl) rfl rfl ?_
        refine Rv rfl rfl rfl (U_add rfl rfl (w64e (m := ((i + 1 : Nat) : Int)) (by omega) (by omega) (by omega))) rfl rfl ?_
        refine Rv rfl rfl rfl (U_assign rfl) rfl rfl ?_
        refine Re rfl ?_
        refine thenQ_n ?_
        exact againTo (T' := [(0, .ros (a.map n64) a.length c), (1, .ros (b.map n64) b.length d), (5, i64 (((i + 1) : Nat) : Int))]) (H' := []) (n := 0) (a.length - (i + 1)) ⟨i + 1, (by omega), (by intro j h1 h2 h3; rcases Nat.lt_succ_iff_lt_or_eq.1 h3 with h4 | rfl; exact hi0_1 j h1 h2 h4; omega), rfl, rfl⟩ (by omega) id ⟨eD rfl rfl, eD rfl rfl, eD rfl rfl, trivial⟩ trivial rfl rfl rfl rfl (fun _ _ => rfl)
    · refine W_exit rfl ?_
      refine thenQ_x ?_
      refine thenQ_x ?_
      refine blkQ_x rfl ?_
      refine thenQ_n ?_
      refine W_seq rfl ?_
      refine W_reg rfl ?_
      refine Rv rfl rfl rfl (U_assign rfl) rfl rfl ?_
      refine Re rfl ?_
      refine thenQ_n ?_
      refine W_ret rfl ?_
      exact retL (rlT rfl rl0) (by first | rfl | (first | exact congrArg AV.bool (decide_eq_true (list_eq (by omega) fun j h1 h2 => hi0_1 j h1 h2 (by omega))).symm | exact congrArg AV.bool (decide_eq_false (list_ne (by omega) (by omega) (by omega))).symm | exact congrArg AV.bool (decide_eq_false fun h => by subst h; omega).symm; done)) rfl
theorem intsS_p (a : List Nat) (c d : Option Nat) (ha : a.length ≤ 1000000) : Pure Try.prog 32 [natsA a c, natsA a d] (.bool true) := by
  have := ints_p a a c d ha ha; rwa [decide_eq_true rfl] at this
theorem longsS_p (a : List Nat) (c d : Option Nat) (ha : a.length ≤ 1000000) : Pure Try.prog 41 [natsA a c, natsA a d] (.bool true) := by
  have := longs_p a a c d ha ha; rwa [decide_eq_true rfl] at this
theorem of_p (l : List Nat) (c : Option Nat) : Pure Try.prog 53 [natsA l c] (natsA l c) := by
  refine pure_of_body Try.func53 (c := body Try.f53) rfl (by simp [Try.ntmps53]) fun w0 Φ0 => ?_
  refine W_seq rfl ?_
  refine W_reg rfl ?_
  refine Rv rfl rfl rfl (U_assign rfl) rfl rfl ?_
  refine Re rfl ?_
  refine thenQ_n ?_
  refine W_seq rfl ?_
  refine W_reg rfl ?_
  refine Rv rfl rfl rfl (U_move rfl) rfl rfl ?_
  refine Rv rfl rfl rfl (U_assign rfl) rfl rfl ?_
  refine Re rfl ?_
  refine thenQ_n ?_
  refine W_ret rfl ?_
  exact retL (rlT rfl rl0) rfl rfl
theorem longs_of (l : List Nat) (c : Option Nat) : Pure Try.prog 54 [natsA l c] (natsA l c) := by
  refine pure_of_body Try.func54 (c := body Try.f54) rfl (by simp [Try.ntmps54]) fun w0 Φ0 => ?_
  refine W_seq rfl ?_
  refine W_reg rfl ?_
  refine Rv rfl rfl rfl (U_assign rfl) rfl rfl ?_
  refine Re rfl ?_
  refine thenQ_n ?_
  refine W_seq rfl ?_
  refine W_reg rfl ?_
  refine Rv rfl rfl rfl (U_move rfl) rfl rfl ?_
  refine Rv rfl rfl rfl (U_assign rfl) rfl rfl ?_
  refine Re rfl ?_
  refine thenQ_n ?_
  refine W_ret rfl ?_
  exact retL (rlT rfl rl0) rfl rfl
theorem rg_p (x y : Int) : Pure Try.prog 48 [i64 x, i64 y] (.agg [i64 x, i64 y]) := by
  refine pure_of_body Try.func48 (c := body Try.f48) rfl (by simp [Try.ntmps48]) fun w0 Φ0 => ?_
  refine W_seq rfl ?_
  refine W_reg rfl ?_
  refine Ra rfl rfl rfl (U_alloc) rfl rfl rfl ?_
  refine Re rfl ?_
  refine thenQ_n ?_
  refine W_seq rfl ?_
  refine W_reg rfl ?_
  refine Rv rfl rfl rfl (U_move rfl) rfl rfl ?_
  refine Rv rfl rfl rfl (U_move rfl) rfl rfl ?_
  refine Rv rfl rfl rfl (U_build rfl rfl) rfl rfl ?_
  refine Rn rfl rfl rfl (U_storeAll rfl rfl rfl rfl rfl rfl) rfl ?_
  refine Re rfl ?_
  refine thenQ_n ?_
  refine W_ret rfl ?_
  exact retL (rlA rfl rfl rfl rl0) rfl rfl
theorem by_p (x y : Int) : Pure Try.prog 50 [i64 x, i64 y] (.agg [i64 x, i64 y]) := by
  refine pure_of_body Try.func50 (c := body Try.f50) rfl (by simp [Try.ntmps50]) fun w0 Φ0 => ?_
  refine W_seq rfl ?_
  refine W_reg rfl ?_
  refine Ra rfl rfl rfl (U_alloc) rfl rfl rfl ?_
  refine Re rfl ?_
  refine thenQ_n ?_
  refine W_seq rfl ?_
  refine W_reg rfl ?_
  refine Rv rfl rfl rfl (U_move rfl) rfl rfl ?_
  refine Rv rfl rfl rfl (U_move rfl) rfl rfl ?_
  refine Rv rfl rfl rfl (U_build rfl rfl) rfl rfl ?_
  refine Rn rfl rfl rfl (U_storeAll rfl rfl rfl rfl rfl rfl) rfl ?_
  refine Re rfl ?_
  refine thenQ_n ?_
  refine W_ret rfl ?_
  exact retL (rlA rfl rfl rfl rl0) rfl rfl
abbrev ksB : List (Nat × Nat) := [(0, 2), (1, 2), (1, 3)]
abbrev ksX : List (Nat × Nat) := [(0, 2), (1, 2), (1, 3), (2, 1)]
theorem vB : VB 4 ksB := ⟨by decide, by decide, by decide, by decide⟩
theorem vX : VB 4 ksX := ⟨by decide, by decide, by decide, by decide⟩
theorem acB : Acy 4 ksB := by
  intro j hj
  have : ((List.range 4).all fun j => !bt ((faQ 4 ksB).g j) j) = true := by decide +kernel
  simpa using List.all_eq_true.1 this j (List.mem_range.2 hj)
theorem cyX : Cyc 4 ksX 1 := ⟨by decide, by decide +kernel, by
  intro j hj
  obtain rfl : j = 0 := by omega
  decide +kernel⟩
theorem book_p  : Pure Try.prog 52 [.nils] (bknA 4 ksB none) := by
  refine pure_of_body Try.func52 (c := body Try.f52) rfl (by simp [Try.ntmps52]) fun w0 Φ0 => ?_
  refine W_seq rfl ?_
  refine W_reg rfl ?_
  refine Ra rfl rfl rfl (U_alloc) rfl rfl rfl ?_
  refine Re rfl ?_
  refine thenQ_n ?_
  refine W_seq rfl ?_
  refine W_reg rfl ?_
  refine Rv rfl rfl rfl (U_build rfl rfl) rfl rfl ?_
  refine Rv rfl rfl rfl (U_build rfl rfl) rfl rfl ?_
  refine Rv rfl rfl rfl (U_build rfl rfl) rfl rfl ?_
  refine Rv rfl rfl rfl (U_buildSliceF (by rfl) (by decide) rfl rfl rfl) rfl rfl ?_
  refine Rv rfl rfl rfl (U_move rfl) rfl rfl ?_
  refine Rv rfl rfl rfl (U_app0G rfl rfl lenk_ros (fun _ _ _ _ h => ⟨_, _, h⟩)) rfl rfl ?_
  refine Rv rfl rfl rfl (U_build rfl rfl) rfl rfl ?_
  refine Rn rfl rfl rfl (U_storeAll rfl rfl rfl rfl rfl rfl) rfl ?_
  refine Re rfl ?_
  refine thenQ_n ?_
  refine WweakH (b := 0) (cs' := [i64 4, .ros [i64 0, i64 2, i64 1, i64 2, i64 1, i64 3] 3 none]) rfl (leL_cons (le_refl _) (leL_cons le_cap (leL_refl _))) ?_
  refine W_ret rfl ?_
  exact retL (rlA rfl rfl rfl rl0) (by first | rfl | (simp only [packA]; rfl; first | done | rfl)) rfl
theorem bookX_p  : Pure Try.prog 52 [.ros [i64 2, i64 1] 1 (some 1)] (bknA 4 ksX none) := by
  refine pure_of_body Try.func52 (c := body Try.f52) rfl (by simp [Try.ntmps52]) fun w0 Φ0 => ?_
  refine W_seq rfl ?_
  refine W_reg rfl ?_
  refine Ra rfl rfl rfl (U_alloc) rfl rfl rfl ?_
  refine Re rfl ?_
  refine thenQ_n ?_
  refine W_seq rfl ?_
  refine W_reg rfl ?_
  refine Rv rfl rfl rfl (U_build rfl rfl) rfl rfl ?_
  refine Rv rfl rfl rfl (U_build rfl rfl) rfl rfl ?_
  refine Rv rfl rfl rfl (U_build rfl rfl) rfl rfl ?_
  refine Rv rfl rfl rfl (U_buildSliceF (by rfl) (by decide) rfl rfl rfl) rfl rfl ?_
  refine Rv rfl rfl rfl (U_move rfl) rfl rfl ?_
  refine Ra rfl rfl rfl (OpU.frz (b := 1) (U_appR (m := 0) (cs' := ksX.flatMap lkN) (n' := 4) rfl rfl rfl rfl (by omega) (by omega) rfl rfl) rfl (by first | (simp; done) | (simp; omega) | omega) (flatD (fun _ => rfl) _) (Nat.le_refl _) (Nat.lt_succ_self _)) rfl rfl rfl ?_
  refine Rv rfl rfl rfl (U_build rfl rfl) rfl rfl ?_
  refine Rn rfl rfl rfl (U_storeAll rfl rfl rfl rfl rfl rfl) rfl ?_
  refine Re rfl ?_
  refine thenQ_n ?_
  refine W_ret rfl ?_
  exact retL (rlA rfl rfl rfl rl0) (by first | rfl | (simp only [packA]; rfl; first | done | rfl)) rfl
end Go.Proofs.Ythmibifghihdaaa
end

section
namespace Go.Proofs.Ythmibifghihdaaa
open Go Go.AE Go.Proofs
abbrev I64 (n : Int) : Prop := IntKind.i64.min ≤ n ∧ n ≤ IntKind.i64.max
theorem rd3 : Reads Try.prog 3 fun vs => ∃ n, I64 n ∧ vs = [i64 n] := Reads.int Try.underlying3
theorem all_map {α : Type} {f : α → List AV} {Q : α → Prop} : ∀ {ls : List (List AV)}, (∀ l ∈ ls, ∃ x, Q x ∧ l = f x) → ∃ xs : List α, (∀ x ∈ xs, Q x) ∧ ls = xs.map f
  | [], _ => ⟨[], by simp, rfl⟩
  | l :: ls, h => by
    obtain ⟨x, hx, rfl⟩ := h l List.mem_cons_self
    obtain ⟨xs, h1, rfl⟩ := all_map fun l hl => h l (List.mem_cons_of_mem _ hl)
    exact ⟨x :: xs, by simpa using ⟨hx, h1⟩, rfl⟩
theorem flat_one {α : Type} (f : α → AV) (l : List α) : (l.map fun n => [f n]).flatten = l.map f := by
  induction l with
  | nil => rfl
  | cons a l ih => simp [ih]
theorem rd25 : Reads Try.prog 25 fun vs => ∃ l : List Int, ((∀ e ∈ l, I64 e) ∧ l.length ≤ maxLen) ∧ vs = [intsA l none] :=
  (Reads.slice Try.underlying25 (z := 1) (by kernel_rfl) (by decide) rd3).mono fun vs ⟨ls, h, hn, e⟩ => by
    obtain ⟨xs, h1, rfl⟩ := all_map h
    exact ⟨xs, ⟨h1, by simpa using hn⟩, by rw [e, flat_one, List.length_map]⟩
theorem rd65 : Reads Try.prog 65 fun vs => ∃ x : Int × Int, (I64 x.1 ∧ I64 x.2) ∧ vs = lkC x :=
  (Reads.array Try.underlying65 (z := 1) (by kernel_rfl) (by kernel_rfl) rd3).mono fun vs ⟨ls, h, hn, e⟩ => by
    obtain ⟨xs, h1, rfl⟩ := all_map (Q := fun n : Int => I64 n) (f := fun n : Int => [i64 n]) h
    rw [List.length_map] at hn
    match xs, hn, h1 with
    | [a, b], _, h1 => exact ⟨(a, b), ⟨h1 a (by simp), h1 b (by simp)⟩, by rw [e]; rfl⟩
theorem rd22 : Reads Try.prog 22 fun vs => ∃ l : List (Int × Int), ((∀ e ∈ l, I64 e.1 ∧ I64 e.2) ∧ l.length ≤ maxLen) ∧ vs = [looksA l none] :=
  (Reads.slice Try.underlying22 (z := 2) (by kernel_rfl) (by decide) rd65).mono fun vs ⟨ls, h, hn, e⟩ => by
    obtain ⟨xs, h1, rfl⟩ := all_map h
    exact ⟨xs, ⟨h1, by simpa using hn⟩, by rw [e, List.length_map, looksA, List.flatMap]⟩
theorem inp3 : ArgR Try.prog 3 fun a => ∃ n, I64 n ∧ a = i64 n := ArgR.int Try.underlying3
theorem inp5a : ArgR Try.prog 5 fun a => ∃ n, (0 ≤ n ∧ n ≤ 255) ∧ a = .int .u8 n := ArgR.int Try.underlying5
theorem inp5 : ArgR Try.prog 5 fun a => ∃ n : Nat, n < 256 ∧ a = .int .u8 (n : Nat) :=
  inp5a.mono fun a ⟨n, h, e⟩ => ⟨n.toNat, by omega, by rw [e, Int.toNat_of_nonneg h.1]⟩
theorem inp25 : ArgR Try.prog 25 fun a => ∃ l : List Int, ((∀ e ∈ l, I64 e) ∧ l.length ≤ maxLen) ∧ a = intsA l none :=
  ArgR.slice Try.underlying25 (rd25.mono fun _ ⟨l, h, e⟩ => ⟨_, ⟨l, h, rfl⟩, e⟩)
theorem inp24 : ArgR Try.prog 24 fun a => ∃ b : Bk, (I64 b.n ∧ (∀ e ∈ b.ls, I64 e.1 ∧ I64 e.2) ∧ b.ls.length ≤ maxLen) ∧ a = .agg [i64 b.n, looksA b.ls none] :=
  (ArgR.struct Try.underlying24 (Reads.struct Try.underlying24 (As := [_, _]) ⟨by kernel_rfl, rd3, by kernel_rfl, rd22, by kernel_rfl, rfl⟩)).mono fun v ⟨vs, ⟨ls, h, e⟩, e'⟩ => by
    obtain ⟨_, _, rfl, ⟨a, ha, rfl⟩, _, _, rfl, ⟨l, hl, rfl⟩, rfl⟩ := h
    exact ⟨⟨a, l⟩, ⟨ha, hl⟩, by rw [e', e]; rfl⟩
end Go.Proofs.Ythmibifghihdaaa
end
