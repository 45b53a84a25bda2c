import Derived.Test.YthmibifghihdaaaM5
set_option linter.all false
section
namespace Go.AE
open Go.RowKit
section ops
variable {C : Ctx} {T : AT} {H : AH} {nx : Nat} {d : Option Tmp} {ty : TypeId} {pos : String} {after : Array Edge} {g : Option (Nat × Bool)}
theorem U_appendN {sT xT e e' z m : Nat} {x y : Operand} {v : AV} {news : List AV} [hT : TySl C.P sT e z] [hX : TySl C.P xT e' z] [hE : TyElem C.P e z] (hx : ev T x = some .nils) (hy : ev T y = some v) (h2 : srcS z H v = some (news, m + 1)) (hlim : m + 1 ≤ 1000000) :
    OpU C ⟨d, .call ⟨.builtin .append, #[x, y], #[sT, xT]⟩, ty, pos, after, g⟩ T H nx (.out nx (m + 1) z) [(nx, some (.cells news e))] (nx + 1) := by
  have h := U_appendGrow (C := C) (T := T) (H := H) (nx := nx) (d := d) (ty := ty) (pos := pos) (after := after) (g := g) (sT := sT) (xT := xT) (c := 0) (s := .nils) (olds := []) (n := 0) hx hy rfl h2 rfl (by omega) (by omega)
  rw [Nat.zero_add] at h
  exact OpU.weakV (fun _ _ _ _ h => con_outS.2 h) h
end ops
section
variable {C : Ctx} {c : Code} {Q : Exit → St → Prop} {T T' : AT} {H H' : AH} {nx n : Nat} {df : List Nat}
end
section
variable {C : Ctx} {c : Code} {Q : Exit → St → Prop} {T T' : AT} {H H' : AH} {nx : Nat} {df : List Nat} {b n z : Nat} {cs : List AV} {t : TypeId}
theorem fS {b n z i : Nat} {cs : List AV} {v : AV} {T : AT} (h : lk T i = some v) (hv : v.nob b = true) : ∃ u, lk T i = some u ∧ FrO b n z cs u v := ⟨v, h, .same hv⟩
end
end Go.AE
end

section
namespace Go.AE
open Go.RowKit
section
variable {C : Ctx} {c : Code} {Q : Exit → St → Prop} {T T' : AT} {H H' : AH} {nx : Nat} {df : List Nat} {cs : List AV} {t : TypeId}
end
section ops
variable {C : Ctx} {T : AT} {H : AH} {nx : Nat} {d : Option Tmp} {ty : TypeId} {pos : String} {after : Array Edge} {g : Option (Nat × Bool)}
theorem U_appN {sT xT e e' z m n' : Nat} {x y : Operand} {v : AV} {cs' news : List AV} [hT : TySl C.P sT e z] [hX : TySl C.P xT e' z] [hE : TyElem C.P e z] (hx : ev T x = some .nils) (hy : ev T y = some v) (h2 : srcS z H v = some (news, m + 1)) (hlim : m + 1 ≤ 1000000) (hc : news = cs') (hn : m + 1 = n') :
    OpU C ⟨d, .call ⟨.builtin .append, #[x, y], #[sT, xT]⟩, ty, pos, after, g⟩ T H nx (.out nx n' z) [(nx, outB cs' e n')] (nx + 1) := by
  subst hn; subst hc; exact U_appendN hx hy h2 hlim
end ops
end Go.AE
end

section
namespace Go.AE
open Go.RowKit
section
variable {P : Program} {T : AT} {H : AH} {nx : Nat}
end
section ops
variable {C : Ctx} {T : AT} {H : AH} {nx : Nat} {d : Option Tmp} {ty : TypeId} {pos : String} {after : Array Edge} {g : Option (Nat × Bool)}
theorem U_appO0 {sT xT e e' z n m n' b t : Nat} {y : Operand} {v : AV} {cs cs' news : List AV} [hT : TySl C.P sT e z] [hX : TySl C.P xT e' z] [hE : TyElem C.P e z] (hx : lk T t = some (.out b n z)) (h0 : n = 0) (hy : ev T y = some v) (hne : y ≠ .tmp t) (hl : cs.length = n * z) (h2 : srcS z H v = some (news, m + 1))
    (hlim : n + (m + 1) ≤ 1000000) (hc : cs ++ news = cs') (hn : n + (m + 1) = n') :
    OpU C ⟨d, .call ⟨.builtin .append, #[.tmp t, y], #[sT, xT]⟩, ty, pos, after, g⟩ T H nx (.out nx n' z) [(nx, outB cs' e n')] (nx + 1) := by
  subst h0; subst hn; subst hc
  have hcs : cs = [] := List.length_eq_zero_iff.1 (by omega)
  subst hcs
  refine OpU.weakT (fun ρ Φ w tmps k => tmps_chT hx (fun _ _ _ _ h => con_out0.1 h) ρ Φ w tmps k) ?_
  have := U_appN (C := C) (T := chT t .nils T) (H := H) (nx := nx) (d := d) (ty := ty) (pos := pos) (after := after) (g := g) (sT := sT) (xT := xT) (e := e) (m := m) (ev_ch hx) (ev_ch_ne hy hne) h2 (by omega) rfl rfl
  rw [Nat.zero_add, List.nil_append]; exact this
end ops
theorem upsO {Hr : AH} {nx b n : Nat} {k : Option ABlk} {cs : List AV} {e : TypeId} (hg : gt Hr b = outB cs e n) (hn : 0 < n) : upsOk 2 Hr nx (nx + 1) [(nx, k), (b, none)] = true := by
  obtain ⟨m, rfl⟩ : ∃ m, n = m + 1 := ⟨n - 1, by omega⟩
  simp [upsOk, hg, outB]
end Go.AE
end

section
namespace Go.AE
open Go.RowKit
section
variable {C : Ctx} {T : AT} {H : AH} {nx : Nat} {d : Option Tmp} {ty : TypeId} {pos : String} {after : Array Edge} {g : Option (Nat × Bool)}
theorem U_neqS {t t' : TypeId} {x y : Operand} {k : IntKind} {a : Int} (hx : ev T x = some (.int k a)) (hy : ev T y = some (.int k a)) : OpU C ⟨d, .binOp .neq t x y t', ty, pos, after, g⟩ T H nx (.bool false) [] nx := by
  have h := U_neq (C := C) (t := t) (t' := t') (d := d) (ty := ty) (pos := pos) (after := after) (g := g) (H := H) (nx := nx) hx hy
  rwa [decide_eq_false (fun k => k rfl)] at h
end
end Go.AE
end

section
namespace Go.Proofs.Ythmibifghihdaaa
set_option maxRecDepth 20000
open Go.AE
theorem chkB_ok {b : Bk} (h : chkB b = 0) : ∃ (n : Nat) (ks : List (Nat × Nat)), b = ⟨n, ks.map cP⟩ ∧ VB n ks ∧ ks.length ≤ 40 := by
  unfold chkB at h
  split at h
  · omega
  · rename_i h1
    split at h
    · omega
    · rename_i h2
      have h1' : (1 ≤ b.n ∧ b.n ≤ 10) ∧ b.ls.length ≤ 40 := by simp [inL1] at h1; omega
      have h2' : ∀ p ∈ b.ls, (0 ≤ p.1 ∧ p.1 < b.n) ∧ (0 ≤ p.2 ∧ p.2 < b.n) ∧ p.1 ≠ p.2 := by
        intro p hp
        have : strB b.n p = false := by
          cases e : strB b.n p with
          | false => rfl
          | true => exact absurd (List.any_eq_true.2 ⟨p, hp, e⟩) h2
        rw [strB_eq] at this; simp [staB] at this; omega
      refine ⟨b.n.toNat, b.ls.map fun p => (p.1.toNat, p.2.toNat), ?_, ⟨by omega, by omega, by simp; omega, fun p hp => ?_⟩, by simp; omega⟩
      · obtain ⟨n, ls⟩ := b
        simp only at h1' h2'
        have e1 : ((n.toNat : Nat) : Int) = n := by omega
        have e2 : (ls.map fun p => (p.1.toNat, p.2.toNat)).map cP = ls := by
          rw [List.map_map]
          refine (List.map_congr_left fun p hp => ?_).trans (List.map_id _)
          have := h2' p hp
          refine Prod.ext ?_ ?_ <;> simp [cP] <;> omega
        rw [e1, e2]
      · obtain ⟨q, hq, rfl⟩ := List.mem_map.1 hp
        have := h2' q hq
        refine ⟨?_, ?_, ?_⟩ <;> simp only <;> omega
end Go.Proofs.Ythmibifghihdaaa
end

section
namespace Go.Proofs.Ythmibifghihdaaa
set_option maxRecDepth 20000
open Go.AE
section
variable {n : Nat} {ks : List (Nat × Nat)} {m : Nat}
theorem nxB_R (hv : VB n ks) {bf : Nat → Nat} (hb : ∀ a x, (bf a).testBit x = true ↔ (x, a) ∈ ks) {m a : Nat} (h : nxB (briQ n ks) m a = true) : nxR bf m a = true := by
  rw [nxR_iff hb]
  have := (nxB_iff hv).1 h
  exact ⟨this.1, fun x hx => this.2 x (.one hx)⟩
theorem en_same (hv : VB n ks) {bf : Nat → Nat} (hb : ∀ a x, (bf a).testBit x = true ↔ (x, a) ∈ ks) : ∀ (k m : Nat), cntN n m + k = n → m < 2 ^ n → DC ks m → en n (nxB (briQ n ks)) m = en n (nxR bf) m
  | 0, m, h, hm, _ => by
    have e : m = full n := Classical.byContradiction fun e => by have := cnt_lt hm e; omega
    subst e; rw [en_full, en_full]
  | k + 1, m, h, hm, hd => by
    by_cases e : m = full n
    · subst e; rw [en_full, en_full]
    · rw [en_eq (nxB_nxt _) hm e, en_eq (nxR_nxt _) hm e]
      refine sum_congr fun a ha => ?_
      rw [nx_same hv hb hd]
      split
      · rename_i h1
        have h2 := nxR_nxt _ _ _ h1
        have h3 := cnt_ad (List.mem_range.1 ha) h2
        exact en_same hv hb k _ (by omega) (ad_lt hm (List.mem_range.1 ha)) (dc_ad hd ((nxR_iff hb).1 h1).2)
      · rfl
end
end Go.Proofs.Ythmibifghihdaaa
end

section
namespace Go.Proofs.Ythmibifghihdaaa
set_option maxRecDepth 20000
open Go.AE
theorem idx_at {q : List Nat} (hn : q.Nodup) {i : Nat} (hi : i < q.length) : idxI (fun y => decide (q[i] = y)) q = i :=
  idx_hit hi (fun j hj h => by
    have := List.pairwise_iff_getElem.1 hn j i hj hi h
    simp; exact fun e => this e.symm) (by simp)
end Go.Proofs.Ythmibifghihdaaa
end

section
namespace Go.Proofs.Ythmibifghihdaaa
set_option maxRecDepth 20000
open Go.AE
theorem bfL_S {n : Nat} {ks : List (Nat × Nat)} {k : Nat} (h : k < ks.length) : bfL n (ks.take (k + 1)) = (bfL n (ks.take k)).set ks[k].2 ((bfL n (ks.take k)).getD ks[k].2 0 ||| 1 <<< ks[k].1) := by
  unfold bfL; rw [List.take_succ_eq_append_getElem h, List.foldl_append]; rfl
theorem bf_ok : ∀ (ks : List (Nat × Nat)) (o : List Nat), (∀ x ∈ o, x < 1024) → (∀ p ∈ ks, p.1 < 10) → (ks.foldl (fun o p => o.set p.2 (o.getD p.2 0 ||| 1 <<< p.1)) o).length = o.length ∧ ∀ x ∈ ks.foldl (fun o p => o.set p.2 (o.getD p.2 0 ||| 1 <<< p.1)) o, x < 1024
  | [], o, h, _ => ⟨rfl, h⟩
  | p :: ks, o, h, hk => by
    have h1 : o.getD p.2 0 < 1024 := by
      by_cases e : p.2 < o.length
      · rw [getD_eq e]; exact h _ (List.getElem_mem _)
      · rw [List.getD_eq_getElem?_getD, List.getElem?_eq_none (by omega)]; decide
    have := bf_ok ks (o.set p.2 (o.getD p.2 0 ||| 1 <<< p.1)) (fun x hx => by
      rcases List.mem_or_eq_of_mem_set hx with hx | rfl
      · exact h x hx
      · exact or1024 h1 (shl1024 (hk p (by simp)))) fun q hq => hk q (by simp [hq])
    rw [List.length_set] at this
    exact this
section
variable {n : Nat} {ks : List (Nat × Nat)}
theorem bfL_len (hv : VB n ks) (k : Nat) : (bfL n (ks.take k)).length = n := by
  have := (bf_ok (ks.take k) (List.replicate n 0) (by simp) fun p hp => (vb10 hv p (List.mem_of_mem_take hp)).1).1
  simpa [bfL] using this
theorem bfL_lt (hv : VB n ks) (k : Nat) : ∀ x ∈ bfL n (ks.take k), x < 1024 := (bf_ok (ks.take k) (List.replicate n 0) (by simp) fun p hp => (vb10 hv p (List.mem_of_mem_take hp)).1).2
theorem bfL_len' (hv : VB n ks) : (bfL n ks).length = n := by have := bfL_len hv ks.length; rwa [List.take_length] at this
theorem bfL_lt' (hv : VB n ks) : ∀ x ∈ bfL n ks, x < 1024 := by have := bfL_lt hv ks.length; rwa [List.take_length] at this
end
section
variable {n : Nat} {nx : Nat → Nat → Bool}
def upK (n : Nat) (nx : Nat → Nat → Bool) (s k : Nat) : List Nat := (List.range (1 <<< n)).map fun j => Wp n nx s j + ((List.range k).map fun a => if (nx s a && decide (ad s a = j)) = true then up n nx s else 0).sum
theorem upK_len {s k : Nat} : (upK n nx s k).length = 1 <<< n := by simp [upK]
theorem upK_at {s k j : Nat} (h : j < (upK n nx s k).length) : (upK n nx s k)[j] = Wp n nx s j + ((List.range k).map fun a => if (nx s a && decide (ad s a = j)) = true then up n nx s else 0).sum := by simp [upK]
theorem upK_0 : (List.replicate (1 <<< n) 0).set 0 1 = upK n nx 0 0 := by
  refine List.ext_getElem (by simp [upK]) fun j h1 h2 => ?_
  rw [upK_at, List.getElem_set, Wp_0]
  by_cases e : j = 0
  · subst e; simp
  · simp [e, show ¬ 0 = j by omega]
theorem upK_all (hx : Nxt nx) {s : Nat} : upK n nx s n = upK n nx (s + 1) 0 := by
  refine List.ext_getElem (by simp [upK]) fun j h1 h2 => ?_
  rw [upK_at, upK_at, Wp_S hx]; simp
theorem upK_self (hx : Nxt nx) {s k : Nat} (hs : s < 2 ^ n) (h : s < (upK n nx s k).length) : (upK n nx s k)[s] = up n nx s := by
  rw [upK_at, Wp_end hs (Nat.le_refl _)]
  have : ((List.range k).map fun a => if (nx s a && decide (ad s a = s)) = true then up n nx s else 0) = (List.range k).map fun _ => 0 := List.map_congr_left fun a _ => by
    rw [if_neg]
    intro h
    simp only [Bool.and_eq_true, decide_eq_true_eq] at h
    have := ad_gt (hx _ _ h.1); omega
  rw [this]
  have e : ∀ (l : List Nat), (l.map fun _ => 0).sum = 0 := fun l => by induction l with | nil => rfl | cons x l ih => simpa using ih
  rw [e]; omega
theorem upK_T (hx : Nxt nx) {s k : Nat} (hs : s < 2 ^ n) (h : nx s k = true) {u v : Nat} (hi : ad s k < (upK n nx s k).length) (hu : u = (upK n nx s k)[ad s k]) (hv : v = up n nx s) : (upK n nx s k).set (ad s k) (u + v) = upK n nx s (k + 1) := by
  refine List.ext_getElem (by simp [upK]) fun j h1 h2 => ?_
  rw [List.getElem_set]
  split
  · rename_i e; subst e
    rw [hu, hv, upK_at, upK_at, List.range_succ, List.map_append, List.sum_append]; simp [h]; omega
  · rename_i e
    rw [upK_at, upK_at, List.range_succ, List.map_append, List.sum_append]; simp [e]
theorem upK_F {s k : Nat} (h : nx s k = false) : upK n nx s k = upK n nx s (k + 1) := by
  refine List.ext_getElem (by simp [upK]) fun j h1 h2 => ?_
  rw [upK_at, upK_at, List.range_succ, List.map_append, List.sum_append]; simp [h]
theorem upK_le (hn : n ≤ 10) (hx : Nxt nx) {s k j : Nat} (hk : k ≤ n) (hj : j < 2 ^ n) (h : j < (upK n nx s k).length) : (upK n nx s k)[j] ≤ 3628800 := by
  rw [upK_at]
  have h1 := Wp_mono (nx := nx) (s := s + 1) hj
  rw [Wp_S hx] at h1
  have h2 : ((List.range k).map fun a => if (nx s a && decide (ad s a = j)) = true then up n nx s else 0).sum ≤ ((List.range n).map fun a => if (nx s a && decide (ad s a = j)) = true then up n nx s else 0).sum := by
    obtain ⟨d, rfl⟩ : ∃ d, n = k + d := ⟨n - k, by omega⟩
    rw [List.range_add, List.map_append, List.sum_append]; omega
  exact Nat.le_trans (Nat.le_trans (Nat.add_le_add_left h2 _) h1) (up_lt hn hj)
theorem upK_end {j : Nat} (hj : j < 2 ^ n) (h : j < (upK n nx (1 <<< n) 0).length) : (upK n nx (1 <<< n) 0)[j] = up n nx j := by
  rw [upK_at, Wp_end hj (by rw [one_shl]; omega)]; simp
def enR (n : Nat) (nx : Nat → Nat → Bool) (m k : Nat) : Nat := if m = full n then 1 else enP n nx m ((List.range k).filter (nx m))
def enK (n : Nat) (nx : Nat → Nat → Bool) (m k : Nat) : List Nat := (enV n nx (m + 1)).set m (enR n nx m k)
theorem enK_len {m k : Nat} : (enK n nx m k).length = 1 <<< n := by simp [enK, enV_len]
theorem enK_0 {m : Nat} (hm : m < 2 ^ n) : enK n nx m 0 = enV n nx (min (m + 1) (full n)) := by
  refine List.ext_getElem (by simp [enK, enV_len]) fun j h1 h2 => ?_
  have hj : j < 2 ^ n := by rw [enK_len] at h1; rwa [← one_shl (n := n)]
  have hf : full n = 2 ^ n - 1 := rfl
  simp only [enK]
  rw [List.getElem_set]
  split
  · rename_i e; subst e
    rw [enV_at]
    unfold enR
    split
    · rename_i e2; rw [if_pos (by omega)]; conv => rhs; rw [e2]
      exact en_full.symm
    · rename_i e2; rw [if_neg (by omega)]; rfl
  · rename_i e
    rw [enV_at, enV_at]
    by_cases h3 : m + 1 ≤ j
    · rw [if_pos h3, if_pos (by omega)]
    · rw [if_neg h3, if_neg (by omega)]
theorem enR_all (hx : Nxt nx) {m : Nat} (hm : m < 2 ^ n) : enR n nx m n = en n nx m := by
  unfold enR
  split
  · rename_i e; subst e; exact en_full.symm
  · rename_i e
    rw [enP, sum_filter, en_eq hx hm e]
theorem enK_all (hx : Nxt nx) {m : Nat} (hm : m < 2 ^ n) : enK n nx m n = enV n nx (min m (full n)) := by
  rw [enK, enR_all hx hm, enV_set]
  have : full n = 2 ^ n - 1 := rfl
  rw [Nat.min_eq_left (by omega)]
theorem enR_T {m k : Nat} (hne : m ≠ full n) (h : nx m k = true) : enR n nx m (k + 1) = enR n nx m k + en n nx (ad m k) := by
  unfold enR
  rw [if_neg hne, if_neg hne, List.range_succ, List.filter_append]
  simp [enP, h]
theorem enR_F {m k : Nat} (h : nx m k = false) : enR n nx m (k + 1) = enR n nx m k := by
  unfold enR
  rw [List.range_succ, List.filter_append]
  simp [h]
theorem enK_T {m k : Nat} (hne : m ≠ full n) (h : nx m k = true) {u v : Nat} (hu : u = enR n nx m k) (hv : v = en n nx (ad m k)) : (enK n nx m k).set m (u + v) = enK n nx m (k + 1) := by
  rw [hu, hv, ← enR_T hne h, enK, enK, List.set_set]
theorem enK_F {m k : Nat} (h : nx m k = false) : enK n nx m k = enK n nx m (k + 1) := by rw [enK, enK, enR_F h]
theorem enR_le (hn : n ≤ 10) (hx : Nxt nx) {m k : Nat} (hm : m < 2 ^ n) (hk : k ≤ n) : enR n nx m k ≤ 3628800 := by
  have h1 := en_lt hx hn hm
  rw [← enR_all hx hm] at h1
  have h2 : enR n nx m k ≤ enR n nx m n := by
    unfold enR
    split
    · exact Nat.le_refl _
    · obtain ⟨d, rfl⟩ : ∃ d, n = k + d := ⟨n - k, by omega⟩
      rw [List.range_add, List.filter_append, enP, enP, List.map_append, List.sum_append]; omega
  omega
theorem enK_at1 {m k : Nat} (h : m < (enK n nx m k).length) : (enK n nx m k)[m] = enR n nx m k := by simp [enK]
theorem enK_at2 {m k j : Nat} (h : m < j) (hj : j < (enK n nx m k).length) : (enK n nx m k)[j] = en n nx j := by
  simp only [enK]
  rw [List.getElem_set_ne (by omega), enV_at, if_pos (by omega)]
theorem nx_full (hx : Nxt nx) {k : Nat} (hk : k < n) : nx (full n) k = false := by
  cases e : nx (full n) k with
  | false => rfl
  | true => have := hx _ _ e; rw [full_tb] at this; simp at this; omega
end
end Go.Proofs.Ythmibifghihdaaa
end

section
namespace Go.Proofs.Ythmibifghihdaaa
set_option maxRecDepth 20000
open Go.AE
theorem before_p (n : Nat) (ks : List (Nat × Nat)) (c : Option Nat) (hv : VB n ks) : Pure Try.prog 66 [bknA n ks c] (.ros ((bfL n ks).map n64) n none) := by
  have hv' := hv
  obtain ⟨hn1, hn, hkl, hk⟩ := hv'
  have h1024 := shl_le hn
  have h2n := shl_ge hn1
  refine pure_of_body Try.func66 (c := body Try.f66) rfl (by simp [Try.ntmps66]) fun w0 Φ0 => ?_
  refine W_seq rfl ?_
  refine W_reg rfl ?_
  refine Rv rfl rfl rfl (U_boxF rfl rfl rfl) rfl rfl ?_
  refine Rv rfl rfl rfl (U_assign rfl) rfl rfl ?_
  refine Re rfl ?_
  refine thenQ_n ?_
  refine W_seq rfl ?_
  refine W_reg rfl ?_
  refine Rv rfl rfl rfl (U_fieldAddrR rfl) rfl rfl ?_
  refine Rv rfl rfl rfl (U_load1 rfl rfl rfl) rfl rfl ?_
  refine Ra rfl rfl rfl (U_mkL (n := n) (cs' := (List.replicate n (0 : Nat)).map n64) rfl rfl rfl (by omega) (replM rfl _)) rfl rfl rfl ?_
  refine Rv rfl rfl rfl (U_assign rfl) rfl rfl ?_
  refine Re rfl ?_
  refine thenQ_n ?_
  refine W_seq rfl ?_
  refine W_seq rfl ?_
  refine W_reg rfl ?_
  refine Rv rfl rfl rfl (U_assign rfl) rfl rfl ?_
  refine Re rfl ?_
  refine thenQ_n ?_
  refine W_block rfl ?_
  refine LoopTo (T' := [(1, .rop [i64 ((n : Nat) : Int), .ros (ks.flatMap lkN) ks.length c] 0), (3, .slice 0 0 n n), (4, i64 ((0 : Nat) : Int))]) (H' := [(0, some (.cells ((bfL n (ks.take 0)).map n64) 3))]) (n := 1) rfl (fun mz_ qz_ => ∃ (k : Nat), k ≤ ks.length ∧ mz_ = ks.length - k ∧ qz_ = ⟨[(1, .rop [i64 ((n : Nat) : Int), .ros (ks.flatMap lkN) ks.length c] 0), (3, .slice 0 0 n n), (4, i64 ((k : Nat) : Int))], [(0, some (.cells ((bfL n (ks.take k)).map n64) 3))], 1, []⟩) ⟨0, (by omega), rfl, rfl⟩ id ⟨eD rfl rfl, e_ rfl rfl, eD rfl rfl, trivial⟩ ⟨rD (mapD (fun _ => rfl) _) rfl rfl, trivial⟩ rfl rfl rfl rfl (fun _ _ => rfl) ?_
  rintro _ _ ⟨k, hi0_0, rfl, rfl⟩
  refine W_seq rfl ?_
  refine W_seq rfl ?_
  refine W_reg rfl ?_
  refine Rv rfl rfl rfl (U_move rfl) rfl rfl ?_
  refine Rv rfl rfl rfl (U_fieldAddrR rfl) rfl rfl ?_
  refine Rv rfl rfl rfl (U_load1 rfl rfl rfl) rfl rfl ?_
  refine Rv rfl rfl rfl (U_lenOf rfl len_ros) rfl rfl ?_
  refine Rv rfl rfl rfl (U_lss rfl rfl) rfl rfl ?_
  refine Re rfl ?_
  refine thenQ_n ?_
  refine WcondP rfl rfl (fun hc0 => ?_) (fun hc0 => ?_)
  · have hck : k < ks.length := by omega
    have hkp := hk _ (List.getElem_mem hck)
    have hbl := bfL_len hv k
    have hbi : ks[k].2 < (bfL n (ks.take k)).length := by omega
    have hbx : (bfL n (ks.take k))[ks[k].2] < 1024 := bfL_lt hv k _ (List.getElem_mem _)
    refine W_skip rfl ?_
    refine thenQ_n ?_
    refine W_seq rfl ?_
    refine W_block rfl ?_
    refine Wdraw rfl (by kernel_rfl) (by kernel_rfl) ?_
    refine Dv rfl rfl rfl (U_move rfl) rfl rfl ?_
    refine Dv rfl rfl rfl (U_fieldAddrR rfl) rfl rfl ?_
    refine Dv rfl rfl rfl (U_load1 rfl rfl rfl) rfl rfl ?_
    refine Dv rfl rfl rfl (U_move rfl) rfl rfl ?_
    have hx1 : k < ks.length := by omega
    refine Dv rfl rfl rfl (U_indexR (j := k) rfl rfl rfl hx1) rfl rfl ?_
    refine Dv rfl rfl rfl (U_indexAR (j := 1) rfl rfl rfl (by decide)) rfl rfl ?_
    refine Dv rfl rfl rfl (U_load1 rfl rfl (lkH1 hx1)) rfl rfl ?_
    have hx2 : ks[k].2 < (bfL n (ks.take k)).length := by omega
    refine Dv rfl rfl rfl (U_indexS (j := ks[k].2) rfl rfl rfl (by omega)) rfl rfl ?_
    refine Dv rfl rfl rfl (U_load1 rfl rfl (getM0 hx2)) rfl rfl ?_
    refine Dv rfl rfl rfl (U_fieldAddrR rfl) rfl rfl ?_
    refine Dv rfl rfl rfl (U_load1 rfl rfl rfl) rfl rfl ?_
    refine Dv rfl rfl rfl (U_move rfl) rfl rfl ?_
    refine Dv rfl rfl rfl (U_indexR (j := k) rfl rfl rfl hx1) rfl rfl ?_
    refine Dv rfl rfl rfl (U_indexAR (j := 0) rfl rfl rfl (by decide)) rfl rfl ?_
    refine Dv rfl rfl rfl (U_load1 rfl rfl (lkH0 hx1)) rfl rfl ?_
    refine Dv rfl rfl rfl (U_shl rfl rfl (by omega) (shlN (n := 1) (i := ks[k].1) (shl63 (by omega)) (by omega))) rfl rfl ?_
    refine Dv rfl rfl rfl (U_or rfl rfl (orN (a := (bfL n (ks.take k))[ks[k].2]) (b := 1 <<< ks[k].1) (lt63 hbx) (lt63 (shl1024 (by omega))))) rfl rfl ?_
    refine Dv rfl rfl rfl (U_indexS (j := ks[k].2) rfl rfl rfl (by omega)) rfl rfl ?_
    refine Dn_ rfl rfl rfl (U_store (n := 1) (cs' := ((bfL n (ks.take k)).set ks[k].2 (((bfL n (ks.take k))[ks[k].2]) ||| (1 <<< ks[k].1))).map n64) rfl rfl rfl rfl rfl (stLt hx2) rfl setM) rfl rfl ?_
    refine Dr.nil rfl ?_
    refine blkQ_n ?_
    refine thenQ_n ?_
    refine W_reg rfl ?_
    refine Rv rfl rfl rfl (U_move rfl) rfl rfl ?_
    refine Rv rfl rfl rfl (U_add rfl rfl (w64e (m := ((k + 1 : Nat) : Int)) (by omega) (by omega) (by omega))) rfl rfl ?_
    refine Rv rfl rfl rfl (U_assign rfl) rfl rfl ?_
    refine Re rfl ?_
    refine thenQ_n ?_
    rw [← getD_eq (d := 0) hbi]
    rw [← bfL_S hck]
    exact againTo (T' := [(1, .rop [i64 ((n : Nat) : Int), .ros (ks.flatMap lkN) ks.length c] 0), (3, .slice 0 0 n n), (4, i64 (((k + 1) : Nat) : Int))]) (H' := [(0, some (.cells ((bfL n (ks.take (k + 1))).map n64) 3))]) (n := 1) (ks.length - (k + 1)) ⟨k + 1, (by omega), rfl, rfl⟩ (by omega) id ⟨eD rfl rfl, e_ rfl rfl, eD rfl rfl, trivial⟩ ⟨rD (mapD (fun _ => rfl) _) rfl rfl, trivial⟩ rfl rfl rfl rfl (fun _ _ => rfl)
  · obtain rfl : k = ks.length := by omega
    rw [List.take_length]
    refine W_exit rfl ?_
    refine thenQ_x ?_
    refine thenQ_x ?_
    refine blkQ_x rfl ?_
    refine thenQ_n ?_
    refine W_seq rfl ?_
    refine W_reg rfl ?_
    refine Rv rfl rfl rfl (U_move rfl) rfl rfl ?_
    refine Rv rfl rfl rfl (U_assign rfl) rfl rfl ?_
    refine Re rfl ?_
    refine thenQ_n ?_
    refine WfrN 0 rfl (mapD (fun _ => rfl) _) (T' := [(2, .ros ((bfL n ks).map n64) n (some n))]) (H' := []) ⟨⟨_, rfl, fr_sl (Nat.le_refl _)⟩, trivial⟩ trivial ?_
    refine WweakT (j := 2) rfl le_cap ?_
    refine W_ret rfl ?_
    exact retL (rlT rfl rl0) rfl rfl
end Go.Proofs.Ythmibifghihdaaa
end

section
namespace Go.Proofs.Ythmibifghihdaaa
set_option maxRecDepth 20000
open Go.AE
theorem ways_p (n : Nat) (ks : List (Nat × Nat)) (c : Option Nat) (hv : VB n ks) : Pure Try.prog 67 [bknA n ks c] (.tup [.ros ((upK n (nxQ n ks) (1 <<< n) 0).map n64) (1 <<< n) none, .ros ((enV n (nxQ n ks) 0).map n64) (1 <<< n) none]) := by
  have hv' := hv
  obtain ⟨hn1, hn, hkl, hk⟩ := hv'
  have h1024 := shl_le hn
  have h2n := shl_ge hn1
  have hx : Nxt (nxQ n ks) := nxR_nxt (bfN n ks)
  have hbl := bfL_len' hv
  have hmin : 1 <<< n - 1 = min (1 <<< n) (full n) := by rw [full_shl]; omega
  refine pure_of_body Try.func67 (c := body Try.f67) rfl (by simp [Try.ntmps67]) fun w0 Φ0 => ?_
  refine W_seq rfl ?_
  refine W_reg rfl ?_
  refine Rv rfl rfl rfl (U_boxF rfl rfl rfl) rfl rfl ?_
  refine Rv rfl rfl rfl (U_assign rfl) rfl rfl ?_
  refine Rv rfl rfl rfl (U_assign rfl) rfl rfl ?_
  refine Re rfl ?_
  refine thenQ_n ?_
  refine W_seq rfl ?_
  refine W_reg rfl ?_
  refine Rv rfl rfl rfl (U_load2 rfl rfl rfl rfl) rfl rfl ?_
  refine Rv rfl rfl rfl (U_call rfl rfl (before_p n ks c hv) rfl) rfl rfl ?_
  refine Rv rfl rfl rfl (U_assign rfl) rfl rfl ?_
  refine Re rfl ?_
  refine thenQ_n ?_
  refine W_seq rfl ?_
  refine W_reg rfl ?_
  refine Rv rfl rfl rfl (U_fieldAddrR rfl) rfl rfl ?_
  refine Rv rfl rfl rfl (U_load1 rfl rfl rfl) rfl rfl ?_
  refine Rv rfl rfl rfl (U_shl rfl rfl (by omega) (shlN (n := 1) (i := n) (shl63' hn) (by omega))) rfl rfl ?_
  refine Rv rfl rfl rfl (U_assign rfl) rfl rfl ?_
  refine Re rfl ?_
  refine thenQ_n ?_
  refine W_seq rfl ?_
  refine Wdraw rfl (by kernel_rfl) (by kernel_rfl) ?_
  refine Dv rfl rfl rfl (U_move rfl) rfl rfl ?_
  refine Da rfl rfl rfl (U_mkL (n := 1 <<< n) (cs' := (List.replicate (1 <<< n) (0 : Nat)).map n64) rfl rfl rfl (by omega) (replM rfl _)) rfl rfl rfl rfl ?_
  refine Dv rfl rfl rfl (U_move rfl) rfl rfl ?_
  refine Da rfl rfl rfl (U_mkL (n := 1 <<< n) (cs' := (List.replicate (1 <<< n) (0 : Nat)).map n64) rfl rfl rfl (by omega) (replM rfl _)) rfl rfl rfl rfl ?_
  refine Dv rfl rfl rfl (U_assign rfl) rfl rfl ?_
  refine Dv rfl rfl rfl (U_assign rfl) rfl rfl ?_
  refine Dr.nil rfl ?_
  refine thenQ_n ?_
  refine W_seq rfl ?_
  refine W_reg rfl ?_
  refine Rv rfl rfl rfl (U_move rfl) rfl rfl ?_
  refine Rv rfl rfl rfl (U_move rfl) rfl rfl ?_
  refine Rv rfl rfl rfl (U_move rfl) rfl rfl ?_
  refine Rv rfl rfl rfl (U_sub rfl rfl (w64e (m := ((1 <<< n - 1 : Nat) : Int)) (by omega) (by omega) (by omega))) rfl rfl ?_
  have hr0 : (List.replicate (1 <<< n) 0).length = 1 <<< n := List.length_replicate
  have hx1 : 0 < (List.replicate (1 <<< n) (0 : Nat)).length := by omega
  refine Rv rfl rfl rfl (U_indexS (j := 0) rfl rfl rfl (by omega)) rfl rfl ?_
  refine Rn rfl rfl rfl (U_store (n := 1) (cs' := ((List.replicate (1 <<< n) (0 : Nat)).set 0 1).map n64) rfl rfl rfl rfl rfl (stLt hx1) rfl setM) rfl ?_
  have hx2 : (1 <<< n - 1) < (List.replicate (1 <<< n) (0 : Nat)).length := by omega
  refine Rv rfl rfl rfl (U_indexS (j := (1 <<< n - 1)) rfl rfl rfl (by omega)) rfl rfl ?_
  refine Rn rfl rfl rfl (U_store (n := 1) (cs' := ((List.replicate (1 <<< n) (0 : Nat)).set (1 <<< n - 1) 1).map n64) rfl rfl rfl rfl rfl (stLt hx2) rfl setM) rfl ?_
  refine Re rfl ?_
  rw [upK_0 (n := n) (nx := (nxQ n ks)), enV_0 (n := n) (nx := (nxQ n ks)), hmin]
  refine thenQ_n ?_
  refine W_seq rfl ?_
  refine W_seq rfl ?_
  refine W_reg rfl ?_
  refine Rv rfl rfl rfl (U_assign rfl) rfl rfl ?_
  refine Re rfl ?_
  refine thenQ_n ?_
  refine W_block rfl ?_
  refine LoopTo (T' := [(1, .rop [i64 ((n : Nat) : Int), .ros (ks.flatMap lkN) ks.length c] 0), (4, .ros ((bfL n ks).map n64) n none), (5, i64 ((1 <<< n : Nat) : Int)), (6, .slice 0 0 (1 <<< n) (1 <<< n)), (7, .slice 1 0 (1 <<< n) (1 <<< n)), (8, i64 ((0 : Nat) : Int))]) (H' := [(0, some (.cells ((upK n (nxQ n ks) 0 0).map n64) 2)), (1, some (.cells ((enV n (nxQ n ks) (min (1 <<< n) (full n))).map n64) 2))]) (n := 2) rfl (fun mz_ qz_ => ∃ (s : Nat), s ≤ 1 <<< n ∧ mz_ = 1 <<< n - s ∧ qz_ = ⟨[(1, .rop [i64 ((n : Nat) : Int), .ros (ks.flatMap lkN) ks.length c] 0), (4, .ros ((bfL n ks).map n64) n none), (5, i64 ((1 <<< n : Nat) : Int)), (6, .slice 0 0 (1 <<< n) (1 <<< n)), (7, .slice 1 0 (1 <<< n) (1 <<< n)), (8, i64 ((s : Nat) : Int))], [(0, some (.cells ((upK n (nxQ n ks) s 0).map n64) 2)), (1, some (.cells ((enV n (nxQ n ks) (min (1 <<< n) (full n))).map n64) 2))], 2, []⟩) ⟨0, (Nat.zero_le _), rfl, rfl⟩ id ⟨eD rfl rfl, eD rfl rfl, eD rfl rfl, e_ rfl rfl, e_ rfl rfl, eD rfl rfl, trivial⟩ ⟨rD (mapD (fun _ => rfl) _) rfl rfl, rD (mapD (fun _ => rfl) _) rfl rfl, trivial⟩ rfl rfl rfl rfl (fun _ _ => rfl) ?_
  rintro _ _ ⟨s, hi0_0, rfl, rfl⟩
  refine W_seq rfl ?_
  refine W_seq rfl ?_
  refine W_reg rfl ?_
  refine Rv rfl rfl rfl (U_move rfl) rfl rfl ?_
  refine Rv rfl rfl rfl (U_move rfl) rfl rfl ?_
  refine Rv rfl rfl rfl (U_lss rfl rfl) rfl rfl ?_
  refine Re rfl ?_
  refine thenQ_n ?_
  refine WcondP rfl rfl (fun hc0 => ?_) (fun hc0 => ?_)
  · have hs : s < 2 ^ n := by rw [← one_shl (n := n)]; omega
    refine W_skip rfl ?_
    refine thenQ_n ?_
    refine W_seq rfl ?_
    refine W_block rfl ?_
    refine W_seq rfl ?_
    refine W_reg rfl ?_
    refine Rv rfl rfl rfl (U_assign rfl) rfl rfl ?_
    refine Re rfl ?_
    refine thenQ_n ?_
    refine W_block rfl ?_
    refine LoopTo (T' := [(1, .rop [i64 ((n : Nat) : Int), .ros (ks.flatMap lkN) ks.length c] 0), (4, .ros ((bfL n ks).map n64) n none), (5, i64 ((1 <<< n : Nat) : Int)), (6, .slice 0 0 (1 <<< n) (1 <<< n)), (7, .slice 1 0 (1 <<< n) (1 <<< n)), (8, i64 ((s : Nat) : Int)), (9, i64 ((0 : Nat) : Int))]) (H' := [(0, some (.cells ((upK n (nxQ n ks) s 0).map n64) 2)), (1, some (.cells ((enV n (nxQ n ks) (min (1 <<< n) (full n))).map n64) 2))]) (n := 2) rfl (fun mz_ qz_ => ∃ (k : Nat), k ≤ n ∧ mz_ = n - k ∧ qz_ = ⟨[(1, .rop [i64 ((n : Nat) : Int), .ros (ks.flatMap lkN) ks.length c] 0), (4, .ros ((bfL n ks).map n64) n none), (5, i64 ((1 <<< n : Nat) : Int)), (6, .slice 0 0 (1 <<< n) (1 <<< n)), (7, .slice 1 0 (1 <<< n) (1 <<< n)), (8, i64 ((s : Nat) : Int)), (9, i64 ((k : Nat) : Int))], [(0, some (.cells ((upK n (nxQ n ks) s k).map n64) 2)), (1, some (.cells ((enV n (nxQ n ks) (min (1 <<< n) (full n))).map n64) 2))], 2, []⟩) ⟨0, (by omega), rfl, rfl⟩ id ⟨eD rfl rfl, eD rfl rfl, eD rfl rfl, e_ rfl rfl, e_ rfl rfl, eD rfl rfl, eD rfl rfl, trivial⟩ ⟨rD (mapD (fun _ => rfl) _) rfl rfl, rD (mapD (fun _ => rfl) _) rfl rfl, trivial⟩ rfl rfl rfl rfl (fun _ _ => rfl) ?_
    rintro _ _ ⟨k, hi1_0, rfl, rfl⟩
    refine W_seq rfl ?_
    refine W_seq rfl ?_
    refine W_reg rfl ?_
    refine Rv rfl rfl rfl (U_move rfl) rfl rfl ?_
    refine Rv rfl rfl rfl (U_fieldAddrR rfl) rfl rfl ?_
    refine Rv rfl rfl rfl (U_load1 rfl rfl rfl) rfl rfl ?_
    refine Rv rfl rfl rfl (U_lss rfl rfl) rfl rfl ?_
    refine Re rfl ?_
    refine thenQ_n ?_
    refine WcondP rfl rfl (fun hc1 => ?_) (fun hc1 => ?_)
    · have hkn : k < n := by omega
      have hbi : k < (bfL n ks).length := by omega
      have hbk : bfN n ks k = (bfL n ks)[k] := getD_eq hbi
      have hbx : (bfL n ks)[k] < 1024 := bfL_lt' hv _ (List.getElem_mem _)
      have h10 : s < 1024 := by omega
      refine W_skip rfl ?_
      refine thenQ_n ?_
      refine W_seq rfl ?_
      refine W_block rfl ?_
      refine W_seq rfl ?_
      refine Wdraw rfl (by kernel_rfl) (by kernel_rfl) ?_
      refine Dv rfl rfl rfl (U_move rfl) rfl rfl ?_
      refine Dv rfl rfl rfl (U_move rfl) rfl rfl ?_
      refine Dv rfl rfl rfl (U_shr rfl rfl (by omega) (shrN (n := s) (i := k) (lt63 h10))) rfl rfl ?_
      refine Dv rfl rfl rfl (U_and rfl rfl (andN (a := s >>> k) (b := 1) (sh63 h10) (by omega))) rfl rfl ?_
      refine Dv rfl rfl rfl (U_eql rfl rfl) rfl rfl ?_
      refine Dv rfl rfl rfl (U_move rfl) rfl rfl ?_
      refine Dsplit (t := 43) rfl (fun hg3 => ?_) (fun hg3 => ?_)
      · rw [hg3]
        have hg3' : (((s >>> k) &&& 1 : Nat) : Int) = 0 := of_decide_eq_true hg3
        have hcg1 := hg3'
        refine Dv rfl rfl rfl (U_move rfl) rfl rfl ?_
        refine Dv rfl rfl rfl (U_move rfl) rfl rfl ?_
        have hx4 : k < (bfL n ks).length := by omega
        refine Dv rfl rfl rfl (U_indexR (j := k) rfl rfl rfl (by omega)) rfl rfl ?_
        refine Dv rfl rfl rfl (U_load1 rfl rfl (getM hx4)) rfl rfl ?_
        refine Dv rfl rfl rfl (U_move rfl) rfl rfl ?_
        refine Dv rfl rfl rfl (U_and rfl rfl (andN (a := (bfL n ks)[k]) (b := s) (lt63 hbx) (lt63 h10))) rfl rfl ?_
        refine Dv rfl rfl rfl (U_move rfl) rfl rfl ?_
        refine Dv rfl rfl rfl (U_move rfl) rfl rfl ?_
        refine Dv rfl rfl rfl (U_indexR (j := k) rfl rfl rfl (by omega)) rfl rfl ?_
        refine Dv rfl rfl rfl (U_load1 rfl rfl (getM hx4)) rfl rfl ?_
        refine Dv rfl rfl rfl (U_eql rfl rfl) rfl rfl ?_
        refine Dv rfl rfl rfl (U_pick_t rfl rfl) rfl rfl ?_
        refine Dr.nil rfl ?_
        refine thenQ_n ?_
        refine WcondP rfl rfl (fun hc2 => ?_) (fun hc2 => ?_)
        · have hnx : nxQ n ks s k = true := by show nxR (bfN n ks) s k = true; unfold nxR; rw [hbk, decide_eq_true hcg1, decide_eq_true hc2]; rfl
          have had : s ||| 1 <<< k < 2 ^ n := ad_lt hs hkn
          have hadl : s ||| 1 <<< k < (upK n (nxQ n ks) s k).length := by rw [upK_len, one_shl (n := n)]; exact had
          have hsl : s < (upK n (nxQ n ks) s k).length := by rw [upK_len, one_shl (n := n)]; exact hs
          have hb1 := upK_le hn hx (show k ≤ n by omega) had hadl
          have hvs : (upK n (nxQ n ks) s k)[s] = up n (nxQ n ks) s := upK_self hx hs hsl
          have hb2 : up n (nxQ n ks) s ≤ 3628800 := up_lt hn hs
          refine Wdraw rfl (by kernel_rfl) (by kernel_rfl) ?_
          refine Dv rfl rfl rfl (U_move rfl) rfl rfl ?_
          refine Dv rfl rfl rfl (U_move rfl) rfl rfl ?_
          refine Dv rfl rfl rfl (U_move rfl) rfl rfl ?_
          refine Dv rfl rfl rfl (U_shl rfl rfl (by omega) (shlN (n := 1) (i := k) (shl63 (by omega)) (by omega))) rfl rfl ?_
          refine Dv rfl rfl rfl (U_or rfl rfl (orN (a := s) (b := 1 <<< k) (lt63 h10) (lt63 (shl1024 (by omega))))) rfl rfl ?_
          have hx5 : (s ||| (1 <<< k)) < (upK n (nxQ n ks) s k).length := by omega
          refine Dv rfl rfl rfl (U_indexS (j := (s ||| (1 <<< k))) rfl rfl rfl (by omega)) rfl rfl ?_
          refine Dv rfl rfl rfl (U_load1 rfl rfl (getM0 hx5)) rfl rfl ?_
          refine Dv rfl rfl rfl (U_move rfl) rfl rfl ?_
          refine Dv rfl rfl rfl (U_move rfl) rfl rfl ?_
          have hx6 : s < (upK n (nxQ n ks) s k).length := by omega
          refine Dv rfl rfl rfl (U_indexS (j := s) rfl rfl rfl (by omega)) rfl rfl ?_
          refine Dv rfl rfl rfl (U_load1 rfl rfl (getM0 hx6)) rfl rfl ?_
          refine Dv rfl rfl rfl (U_add rfl rfl (w64e (m := ((((upK n (nxQ n ks) s k)[(s ||| (1 <<< k))]) + (upK n (nxQ n ks) s k)[s] : Nat) : Int)) (by omega) (by omega) (by omega))) rfl rfl ?_
          refine Dv rfl rfl rfl (U_indexS (j := (s ||| (1 <<< k))) rfl rfl rfl (by omega)) rfl rfl ?_
          refine Dn_ rfl rfl rfl (U_store (n := 1) (cs' := ((upK n (nxQ n ks) s k).set (s ||| (1 <<< k)) (((upK n (nxQ n ks) s k)[(s ||| (1 <<< k))]) + (upK n (nxQ n ks) s k)[s])).map n64) rfl rfl rfl rfl rfl (stLt hx5) rfl setM) rfl rfl ?_
          refine Dr.nil rfl ?_
          refine blkQ_n ?_
          refine thenQ_n ?_
          refine W_reg rfl ?_
          refine Rv rfl rfl rfl (U_move rfl) rfl rfl ?_
          refine Rv rfl rfl rfl (U_add rfl rfl (w64e (m := ((k + 1 : Nat) : Int)) (by omega) (by omega) (by omega))) rfl rfl ?_
          refine Rv rfl rfl rfl (U_assign rfl) rfl rfl ?_
          refine Re rfl ?_
          refine thenQ_n ?_
          first | rw [upK_T hx hs hnx hadl rfl hvs] | rw [upK_F hnx]
          exact againTo (T' := [(1, .rop [i64 ((n : Nat) : Int), .ros (ks.flatMap lkN) ks.length c] 0), (4, .ros ((bfL n ks).map n64) n none), (5, i64 ((1 <<< n : Nat) : Int)), (6, .slice 0 0 (1 <<< n) (1 <<< n)), (7, .slice 1 0 (1 <<< n) (1 <<< n)), (8, i64 ((s : Nat) : Int)), (9, i64 (((k + 1) : Nat) : Int))]) (H' := [(0, some (.cells ((upK n (nxQ n ks) s (k + 1)).map n64) 2)), (1, some (.cells ((enV n (nxQ n ks) (min (1 <<< n) (full n))).map n64) 2))]) (n := 2) (n - (k + 1)) ⟨k + 1, (by omega), rfl, rfl⟩ (by omega) id ⟨eD rfl rfl, eD rfl rfl, eD rfl rfl, e_ rfl rfl, e_ rfl rfl, eD rfl rfl, eD rfl rfl, trivial⟩ ⟨rD (mapD (fun _ => rfl) _) rfl rfl, rD (mapD (fun _ => rfl) _) rfl rfl, trivial⟩ rfl rfl rfl rfl (fun _ _ => rfl)
        · have hnx : nxQ n ks s k = false := by show nxR (bfN n ks) s k = false; unfold nxR; rw [hbk, decide_eq_true hcg1, decide_eq_false hc2]; rfl
          refine W_skip rfl ?_
          refine blkQ_n ?_
          refine thenQ_n ?_
          refine W_reg rfl ?_
          refine Rv rfl rfl rfl (U_move rfl) rfl rfl ?_
          refine Rv rfl rfl rfl (U_add rfl rfl (w64e (m := ((k + 1 : Nat) : Int)) (by omega) (by omega) (by omega))) rfl rfl ?_
          refine Rv rfl rfl rfl (U_assign rfl) rfl rfl ?_
          refine Re rfl ?_
          refine thenQ_n ?_
          first | rw [upK_T hx hs hnx hadl rfl hvs] | rw [upK_F hnx]
          exact againTo (T' := [(1, .rop [i64 ((n : Nat) : Int), .ros (ks.flatMap lkN) ks.length c] 0), (4, .ros ((bfL n ks).map n64) n none), (5, i64 ((1 <<< n : Nat) : Int)), (6, .slice 0 0 (1 <<< n) (1 <<< n)), (7, .slice 1 0 (1 <<< n) (1 <<< n)), (8, i64 ((s : Nat) : Int)), (9, i64 (((k + 1) : Nat) : Int))]) (H' := [(0, some (.cells ((upK n (nxQ n ks) s (k + 1)).map n64) 2)), (1, some (.cells ((enV n (nxQ n ks) (min (1 <<< n) (full n))).map n64) 2))]) (n := 2) (n - (k + 1)) ⟨k + 1, (by omega), rfl, rfl⟩ (by omega) id ⟨eD rfl rfl, eD rfl rfl, eD rfl rfl, e_ rfl rfl, e_ rfl rfl, eD rfl rfl, eD rfl rfl, trivial⟩ ⟨rD (mapD (fun _ => rfl) _) rfl rfl, rD (mapD (fun _ => rfl) _) rfl rfl, trivial⟩ rfl rfl rfl rfl (fun _ _ => rfl)
      · rw [hg3]
        have hg3' : ¬ ((((s >>> k) &&& 1 : Nat) : Int) = 0) := of_decide_eq_false hg3
        have hnx : nxQ n ks s k = false := by show nxR (bfN n ks) s k = false; unfold nxR; rw [decide_eq_false hg3']; rfl
        refine Ds rfl rfl rfl rfl rfl ?_
        refine Ds rfl rfl rfl rfl rfl ?_
        refine Ds rfl rfl rfl rfl rfl ?_
        refine Ds rfl rfl rfl rfl rfl ?_
        refine Ds rfl rfl rfl rfl rfl ?_
        refine Ds rfl rfl rfl rfl rfl ?_
        refine Ds rfl rfl rfl rfl rfl ?_
        refine Ds rfl rfl rfl rfl rfl ?_
        refine Ds rfl rfl rfl rfl rfl ?_
        refine Ds rfl rfl rfl rfl rfl ?_
        refine Ds rfl rfl rfl rfl rfl ?_
        refine Dv rfl rfl rfl (U_pick_f rfl rfl) rfl rfl ?_
        refine Dr.nil rfl ?_
        refine thenQ_n ?_
        refine Wcond rfl rfl (fun h => nomatch h) (fun _ => ?_)
        refine W_skip rfl ?_
        refine blkQ_n ?_
        refine thenQ_n ?_
        refine W_reg rfl ?_
        refine Rv rfl rfl rfl (U_move rfl) rfl rfl ?_
        refine Rv rfl rfl rfl (U_add rfl rfl (w64e (m := ((k + 1 : Nat) : Int)) (by omega) (by omega) (by omega))) rfl rfl ?_
        refine Rv rfl rfl rfl (U_assign rfl) rfl rfl ?_
        refine Re rfl ?_
        refine thenQ_n ?_
        first | rw [upK_T hx hs hnx hadl rfl hvs] | rw [upK_F hnx]
        exact againTo (T' := [(1, .rop [i64 ((n : Nat) : Int), .ros (ks.flatMap lkN) ks.length c] 0), (4, .ros ((bfL n ks).map n64) n none), (5, i64 ((1 <<< n : Nat) : Int)), (6, .slice 0 0 (1 <<< n) (1 <<< n)), (7, .slice 1 0 (1 <<< n) (1 <<< n)), (8, i64 ((s : Nat) : Int)), (9, i64 (((k + 1) : Nat) : Int))]) (H' := [(0, some (.cells ((upK n (nxQ n ks) s (k + 1)).map n64) 2)), (1, some (.cells ((enV n (nxQ n ks) (min (1 <<< n) (full n))).map n64) 2))]) (n := 2) (n - (k + 1)) ⟨k + 1, (by omega), rfl, rfl⟩ (by omega) id ⟨eD rfl rfl, eD rfl rfl, eD rfl rfl, e_ rfl rfl, e_ rfl rfl, eD rfl rfl, eD rfl rfl, trivial⟩ ⟨rD (mapD (fun _ => rfl) _) rfl rfl, rD (mapD (fun _ => rfl) _) rfl rfl, trivial⟩ rfl rfl rfl rfl (fun _ _ => rfl)
    · obtain rfl : n = k := by omega
      rw [upK_all hx]
      refine W_exit rfl ?_
      refine thenQ_x ?_
      refine thenQ_x ?_
      refine blkQ_x rfl ?_
      refine blkQ_n ?_
      refine thenQ_n ?_
      refine W_reg rfl ?_
      refine Rv rfl rfl rfl (U_move rfl) rfl rfl ?_
      refine Rv rfl rfl rfl (U_add rfl rfl (w64e (m := ((s + 1 : Nat) : Int)) (by omega) (by omega) (by omega))) rfl rfl ?_
      refine Rv rfl rfl rfl (U_assign rfl) rfl rfl ?_
      refine Re rfl ?_
      refine thenQ_n ?_
      exact againTo (T' := [(1, .rop [i64 ((n : Nat) : Int), .ros (ks.flatMap lkN) ks.length c] 0), (4, .ros ((bfL n ks).map n64) n none), (5, i64 ((1 <<< n : Nat) : Int)), (6, .slice 0 0 (1 <<< n) (1 <<< n)), (7, .slice 1 0 (1 <<< n) (1 <<< n)), (8, i64 (((s + 1) : Nat) : Int))]) (H' := [(0, some (.cells ((upK n (nxQ n ks) (s + 1) 0).map n64) 2)), (1, some (.cells ((enV n (nxQ n ks) (min (1 <<< n) (full n))).map n64) 2))]) (n := 2) (1 <<< n - (s + 1)) ⟨s + 1, (by omega), rfl, rfl⟩ (by omega) id ⟨eD rfl rfl, eD rfl rfl, eD rfl rfl, e_ rfl rfl, e_ rfl rfl, eD rfl rfl, trivial⟩ ⟨rD (mapD (fun _ => rfl) _) rfl rfl, rD (mapD (fun _ => rfl) _) rfl rfl, trivial⟩ rfl rfl rfl rfl (fun _ _ => rfl)
  · obtain rfl : s = 1 <<< n := by omega
    refine W_exit rfl ?_
    refine thenQ_x ?_
    refine thenQ_x ?_
    refine blkQ_x rfl ?_
    refine thenQ_n ?_
    refine W_seq rfl ?_
    refine W_seq rfl ?_
    refine W_reg rfl ?_
    refine Rv rfl rfl rfl (U_move rfl) rfl rfl ?_
    refine Rv rfl rfl rfl (U_sub rfl rfl (w64 (by omega) (by omega))) rfl rfl ?_
    refine Rv rfl rfl rfl (U_assign rfl) rfl rfl ?_
    refine Re rfl ?_
    refine thenQ_n ?_
    refine W_block rfl ?_
    refine LoopTo (T' := [(1, .rop [i64 ((n : Nat) : Int), .ros (ks.flatMap lkN) ks.length c] 0), (4, .ros ((bfL n ks).map n64) n none), (6, .slice 0 0 (1 <<< n) (1 <<< n)), (7, .slice 1 0 (1 <<< n) (1 <<< n)), (10, i64 ((((1 <<< n) : Nat) : Int) - 1))]) (H' := [(0, some (.cells ((upK n (nxQ n ks) (1 <<< n) 0).map n64) 2)), (1, some (.cells ((enV n (nxQ n ks) (min (1 <<< n) (full n))).map n64) 2))]) (n := 2) rfl (fun mz_ qz_ => ∃ (s : Nat), s ≤ 1 <<< n ∧ mz_ = 0 + s ∧ qz_ = ⟨[(1, .rop [i64 ((n : Nat) : Int), .ros (ks.flatMap lkN) ks.length c] 0), (4, .ros ((bfL n ks).map n64) n none), (6, .slice 0 0 (1 <<< n) (1 <<< n)), (7, .slice 1 0 (1 <<< n) (1 <<< n)), (10, i64 (((s : Nat) : Int) - 1))], [(0, some (.cells ((upK n (nxQ n ks) (1 <<< n) 0).map n64) 2)), (1, some (.cells ((enV n (nxQ n ks) (min s (full n))).map n64) 2))], 2, []⟩) ⟨1 <<< n, (Nat.le_refl _), rfl, rfl⟩ id ⟨eD rfl rfl, eD rfl rfl, e_ rfl rfl, e_ rfl rfl, eD rfl rfl, trivial⟩ ⟨rD (mapD (fun _ => rfl) _) rfl rfl, rD (mapD (fun _ => rfl) _) rfl rfl, trivial⟩ rfl rfl rfl rfl (fun _ _ => rfl) ?_
    rintro _ _ ⟨s, hi2_0, rfl, rfl⟩
    refine W_seq rfl ?_
    refine W_seq rfl ?_
    refine W_reg rfl ?_
    refine Rv rfl rfl rfl (U_move rfl) rfl rfl ?_
    refine Rv rfl rfl rfl (U_geq rfl rfl) rfl rfl ?_
    refine Re rfl ?_
    refine thenQ_n ?_
    refine WcondP rfl rfl (fun hc3 => ?_) (fun hc3 => ?_)
    · obtain ⟨m, rfl⟩ : ∃ m, s = m + 1 := ⟨s - 1, by omega⟩
      have hm1 : ((m + 1 : Nat) : Int) - 1 = ((m : Nat) : Int) := by omega
      rw [hm1]
      have hm : m < 2 ^ n := by rw [← one_shl (n := n)]; omega
      rw [← enK_0 (n := n) (nx := (nxQ n ks)) hm]
      refine W_skip rfl ?_
      refine thenQ_n ?_
      refine W_seq rfl ?_
      refine W_block rfl ?_
      refine W_seq rfl ?_
      refine W_reg rfl ?_
      refine Rv rfl rfl rfl (U_assign rfl) rfl rfl ?_
      refine Re rfl ?_
      refine thenQ_n ?_
      refine W_block rfl ?_
      refine LoopTo (T' := [(1, .rop [i64 ((n : Nat) : Int), .ros (ks.flatMap lkN) ks.length c] 0), (4, .ros ((bfL n ks).map n64) n none), (6, .slice 0 0 (1 <<< n) (1 <<< n)), (7, .slice 1 0 (1 <<< n) (1 <<< n)), (10, i64 ((m : Nat) : Int)), (11, i64 ((0 : Nat) : Int))]) (H' := [(0, some (.cells ((upK n (nxQ n ks) (1 <<< n) 0).map n64) 2)), (1, some (.cells ((enK n (nxQ n ks) m 0).map n64) 2))]) (n := 2) rfl (fun mz_ qz_ => ∃ (k : Nat), k ≤ n ∧ mz_ = n - k ∧ qz_ = ⟨[(1, .rop [i64 ((n : Nat) : Int), .ros (ks.flatMap lkN) ks.length c] 0), (4, .ros ((bfL n ks).map n64) n none), (6, .slice 0 0 (1 <<< n) (1 <<< n)), (7, .slice 1 0 (1 <<< n) (1 <<< n)), (10, i64 ((m : Nat) : Int)), (11, i64 ((k : Nat) : Int))], [(0, some (.cells ((upK n (nxQ n ks) (1 <<< n) 0).map n64) 2)), (1, some (.cells ((enK n (nxQ n ks) m k).map n64) 2))], 2, []⟩) ⟨0, (by omega), rfl, rfl⟩ id ⟨eD rfl rfl, eD rfl rfl, e_ rfl rfl, e_ rfl rfl, eD rfl rfl, eD rfl rfl, trivial⟩ ⟨rD (mapD (fun _ => rfl) _) rfl rfl, rD (mapD (fun _ => rfl) _) rfl rfl, trivial⟩ rfl rfl rfl rfl (fun _ _ => rfl) ?_
      rintro _ _ ⟨k, hi3_0, rfl, rfl⟩
      refine W_seq rfl ?_
      refine W_seq rfl ?_
      refine W_reg rfl ?_
      refine Rv rfl rfl rfl (U_move rfl) rfl rfl ?_
      refine Rv rfl rfl rfl (U_fieldAddrR rfl) rfl rfl ?_
      refine Rv rfl rfl rfl (U_load1 rfl rfl rfl) rfl rfl ?_
      refine Rv rfl rfl rfl (U_lss rfl rfl) rfl rfl ?_
      refine Re rfl ?_
      refine thenQ_n ?_
      refine WcondP rfl rfl (fun hc4 => ?_) (fun hc4 => ?_)
      · have hkn : k < n := by omega
        have hbi : k < (bfL n ks).length := by omega
        have hbk : bfN n ks k = (bfL n ks)[k] := getD_eq hbi
        have hbx : (bfL n ks)[k] < 1024 := bfL_lt' hv _ (List.getElem_mem _)
        have h10 : m < 1024 := by omega
        refine W_skip rfl ?_
        refine thenQ_n ?_
        refine W_seq rfl ?_
        refine W_block rfl ?_
        refine W_seq rfl ?_
        refine Wdraw rfl (by kernel_rfl) (by kernel_rfl) ?_
        refine Dv rfl rfl rfl (U_move rfl) rfl rfl ?_
        refine Dv rfl rfl rfl (U_move rfl) rfl rfl ?_
        refine Dv rfl rfl rfl (U_shr rfl rfl (by omega) (shrN (n := m) (i := k) (lt63 h10))) rfl rfl ?_
        refine Dv rfl rfl rfl (U_and rfl rfl (andN (a := m >>> k) (b := 1) (sh63 h10) (by omega))) rfl rfl ?_
        refine Dv rfl rfl rfl (U_eql rfl rfl) rfl rfl ?_
        refine Dv rfl rfl rfl (U_move rfl) rfl rfl ?_
        refine Dsplit (t := 86) rfl (fun hg7 => ?_) (fun hg7 => ?_)
        · rw [hg7]
          have hg7' : (((m >>> k) &&& 1 : Nat) : Int) = 0 := of_decide_eq_true hg7
          have hcg1 := hg7'
          refine Dv rfl rfl rfl (U_move rfl) rfl rfl ?_
          refine Dv rfl rfl rfl (U_move rfl) rfl rfl ?_
          have hx8 : k < (bfL n ks).length := by omega
          refine Dv rfl rfl rfl (U_indexR (j := k) rfl rfl rfl (by omega)) rfl rfl ?_
          refine Dv rfl rfl rfl (U_load1 rfl rfl (getM hx8)) rfl rfl ?_
          refine Dv rfl rfl rfl (U_move rfl) rfl rfl ?_
          refine Dv rfl rfl rfl (U_and rfl rfl (andN (a := (bfL n ks)[k]) (b := m) (lt63 hbx) (lt63 h10))) rfl rfl ?_
          refine Dv rfl rfl rfl (U_move rfl) rfl rfl ?_
          refine Dv rfl rfl rfl (U_move rfl) rfl rfl ?_
          refine Dv rfl rfl rfl (U_indexR (j := k) rfl rfl rfl (by omega)) rfl rfl ?_
          refine Dv rfl rfl rfl (U_load1 rfl rfl (getM hx8)) rfl rfl ?_
          refine Dv rfl rfl rfl (U_eql rfl rfl) rfl rfl ?_
          refine Dv rfl rfl rfl (U_pick_t rfl rfl) rfl rfl ?_
          refine Dr.nil rfl ?_
          refine thenQ_n ?_
          refine WcondP rfl rfl (fun hc5 => ?_) (fun hc5 => ?_)
          · have hnx : nxQ n ks m k = true := by show nxR (bfN n ks) m k = true; unfold nxR; rw [hbk, decide_eq_true hcg1, decide_eq_true hc5]; rfl
            have had : m ||| 1 <<< k < 2 ^ n := ad_lt hm hkn
            have hgt : m < m ||| 1 <<< k := ad_gt (hx _ _ hnx)
            have hne : m ≠ full n := by { rintro rfl; rw [nx_full hx hkn] at hnx; cases hnx }
            have hadl : m ||| 1 <<< k < (enK n (nxQ n ks) m k).length := by rw [enK_len, one_shl (n := n)]; exact had
            have hml : m < (enK n (nxQ n ks) m k).length := by rw [enK_len, one_shl (n := n)]; exact hm
            have hu : (enK n (nxQ n ks) m k)[m] = enR n (nxQ n ks) m k := enK_at1 hml
            have hv_ : (enK n (nxQ n ks) m k)[m ||| 1 <<< k] = en n (nxQ n ks) (ad m k) := enK_at2 hgt hadl
            have hb1 := enR_le hn hx hm (show k ≤ n by omega)
            have hb2 : en n (nxQ n ks) (ad m k) ≤ 3628800 := en_lt hx hn had
            refine Wdraw rfl (by kernel_rfl) (by kernel_rfl) ?_
            refine Dv rfl rfl rfl (U_move rfl) rfl rfl ?_
            refine Dv rfl rfl rfl (U_move rfl) rfl rfl ?_
            have hx9 : m < (enK n (nxQ n ks) m k).length := by omega
            refine Dv rfl rfl rfl (U_indexS (j := m) rfl rfl rfl (by omega)) rfl rfl ?_
            refine Dv rfl rfl rfl (U_load1 rfl rfl (getM0 hx9)) rfl rfl ?_
            refine Dv rfl rfl rfl (U_move rfl) rfl rfl ?_
            refine Dv rfl rfl rfl (U_move rfl) rfl rfl ?_
            refine Dv rfl rfl rfl (U_move rfl) rfl rfl ?_
            refine Dv rfl rfl rfl (U_shl rfl rfl (by omega) (shlN (n := 1) (i := k) (shl63 (by omega)) (by omega))) rfl rfl ?_
            refine Dv rfl rfl rfl (U_or rfl rfl (orN (a := m) (b := 1 <<< k) (lt63 h10) (lt63 (shl1024 (by omega))))) rfl rfl ?_
            have hx10 : (m ||| (1 <<< k)) < (enK n (nxQ n ks) m k).length := by omega
            refine Dv rfl rfl rfl (U_indexS (j := (m ||| (1 <<< k))) rfl rfl rfl (by omega)) rfl rfl ?_
            refine Dv rfl rfl rfl (U_load1 rfl rfl (getM0 hx10)) rfl rfl ?_
            refine Dv rfl rfl rfl (U_add rfl rfl (w64e (m := (((enK n (nxQ n ks) m k)[m] + ((enK n (nxQ n ks) m k)[(m ||| (1 <<< k))]) : Nat) : Int)) (by omega) (by omega) (by omega))) rfl rfl ?_
            refine Dv rfl rfl rfl (U_indexS (j := m) rfl rfl rfl (by omega)) rfl rfl ?_
            refine Dn_ rfl rfl rfl (U_store (n := 1) (cs' := ((enK n (nxQ n ks) m k).set m ((enK n (nxQ n ks) m k)[m] + ((enK n (nxQ n ks) m k)[(m ||| (1 <<< k))]))).map n64) rfl rfl rfl rfl rfl (stLt hx9) rfl setM) rfl rfl ?_
            refine Dr.nil rfl ?_
            refine blkQ_n ?_
            refine thenQ_n ?_
            refine W_reg rfl ?_
            refine Rv rfl rfl rfl (U_move rfl) rfl rfl ?_
            refine Rv rfl rfl rfl (U_add rfl rfl (w64e (m := ((k + 1 : Nat) : Int)) (by omega) (by omega) (by omega))) rfl rfl ?_
            refine Rv rfl rfl rfl (U_assign rfl) rfl rfl ?_
            refine Re rfl ?_
            refine thenQ_n ?_
            first | rw [enK_T hne hnx hu hv_] | rw [enK_F hnx]
            exact againTo (T' := [(1, .rop [i64 ((n : Nat) : Int), .ros (ks.flatMap lkN) ks.length c] 0), (4, .ros ((bfL n ks).map n64) n none), (6, .slice 0 0 (1 <<< n) (1 <<< n)), (7, .slice 1 0 (1 <<< n) (1 <<< n)), (10, i64 ((m : Nat) : Int)), (11, i64 (((k + 1) : Nat) : Int))]) (H' := [(0, some (.cells ((upK n (nxQ n ks) (1 <<< n) 0).map n64) 2)), (1, some (.cells ((enK n (nxQ n ks) m (k + 1)).map n64) 2))]) (n := 2) (n - (k + 1)) ⟨k + 1, (by omega), rfl, rfl⟩ (by omega) id ⟨eD rfl rfl, eD rfl rfl, e_ rfl rfl, e_ rfl rfl, eD rfl rfl, eD rfl rfl, trivial⟩ ⟨rD (mapD (fun _ => rfl) _) rfl rfl, rD (mapD (fun _ => rfl) _) rfl rfl, trivial⟩ rfl rfl rfl rfl (fun _ _ => rfl)
          · have hnx : nxQ n ks m k = false := by show nxR (bfN n ks) m k = false; unfold nxR; rw [hbk, decide_eq_true hcg1, decide_eq_false hc5]; rfl
            refine W_skip rfl ?_
            refine blkQ_n ?_
            refine thenQ_n ?_
            refine W_reg rfl ?_
            refine Rv rfl rfl rfl (U_move rfl) rfl rfl ?_
            refine Rv rfl rfl rfl (U_add rfl rfl (w64e (m := ((k + 1 : Nat) : Int)) (by omega) (by omega) (by omega))) rfl rfl ?_
            refine Rv rfl rfl rfl (U_assign rfl) rfl rfl ?_
            refine Re rfl ?_
            refine thenQ_n ?_
            first | rw [enK_T hne hnx hu hv_] | rw [enK_F hnx]
            exact againTo (T' := [(1, .rop [i64 ((n : Nat) : Int), .ros (ks.flatMap lkN) ks.length c] 0), (4, .ros ((bfL n ks).map n64) n none), (6, .slice 0 0 (1 <<< n) (1 <<< n)), (7, .slice 1 0 (1 <<< n) (1 <<< n)), (10, i64 ((m : Nat) : Int)), (11, i64 (((k + 1) : Nat) : Int))]) (H' := [(0, some (.cells ((upK n (nxQ n ks) (1 <<< n) 0).map n64) 2)), (1, some (.cells ((enK n (nxQ n ks) m (k + 1)).map n64) 2))]) (n := 2) (n - (k + 1)) ⟨k + 1, (by omega), rfl, rfl⟩ (by omega) id ⟨eD rfl rfl, eD rfl rfl, e_ rfl rfl, e_ rfl rfl, eD rfl rfl, eD rfl rfl, trivial⟩ ⟨rD (mapD (fun _ => rfl) _) rfl rfl, rD (mapD (fun _ => rfl) _) rfl rfl, trivial⟩ rfl rfl rfl rfl (fun _ _ => rfl)
        · rw [hg7]
          have hg7' : ¬ ((((m >>> k) &&& 1 : Nat) : Int) = 0) := of_decide_eq_false hg7
          have hnx : nxQ n ks m k = false := by show nxR (bfN n ks) m k = false; unfold nxR; rw [decide_eq_false hg7']; rfl
          refine Ds rfl rfl rfl rfl rfl ?_
          refine Ds rfl rfl rfl rfl rfl ?_
          refine Ds rfl rfl rfl rfl rfl ?_
          refine Ds rfl rfl rfl rfl rfl ?_
          refine Ds rfl rfl rfl rfl rfl ?_
          refine Ds rfl rfl rfl rfl rfl ?_
          refine Ds rfl rfl rfl rfl rfl ?_
          refine Ds rfl rfl rfl rfl rfl ?_
          refine Ds rfl rfl rfl rfl rfl ?_
          refine Ds rfl rfl rfl rfl rfl ?_
          refine Ds rfl rfl rfl rfl rfl ?_
          refine Dv rfl rfl rfl (U_pick_f rfl rfl) rfl rfl ?_
          refine Dr.nil rfl ?_
          refine thenQ_n ?_
          refine Wcond rfl rfl (fun h => nomatch h) (fun _ => ?_)
          refine W_skip rfl ?_
          refine blkQ_n ?_
          refine thenQ_n ?_
          refine W_reg rfl ?_
          refine Rv rfl rfl rfl (U_move rfl) rfl rfl ?_
          refine Rv rfl rfl rfl (U_add rfl rfl (w64e (m := ((k + 1 : Nat) : Int)) (by omega) (by omega) (by omega))) rfl rfl ?_
          refine Rv rfl rfl rfl (U_assign rfl) rfl rfl ?_
          refine Re rfl ?_
          refine thenQ_n ?_
          first | rw [enK_T hne hnx hu hv_] | rw [enK_F hnx]
          exact againTo (T' := [(1, .rop [i64 ((n : Nat) : Int), .ros (ks.flatMap lkN) ks.length c] 0), (4, .ros ((bfL n ks).map n64) n none), (6, .slice 0 0 (1 <<< n) (1 <<< n)), (7, .slice 1 0 (1 <<< n) (1 <<< n)), (10, i64 ((m : Nat) : Int)), (11, i64 (((k + 1) : Nat) : Int))]) (H' := [(0, some (.cells ((upK n (nxQ n ks) (1 <<< n) 0).map n64) 2)), (1, some (.cells ((enK n (nxQ n ks) m (k + 1)).map n64) 2))]) (n := 2) (n - (k + 1)) ⟨k + 1, (by omega), rfl, rfl⟩ (by omega) id ⟨eD rfl rfl, eD rfl rfl, e_ rfl rfl, e_ rfl rfl, eD rfl rfl, eD rfl rfl, trivial⟩ ⟨rD (mapD (fun _ => rfl) _) rfl rfl, rD (mapD (fun _ => rfl) _) rfl rfl, trivial⟩ rfl rfl rfl rfl (fun _ _ => rfl)
      · obtain rfl : n = k := by omega
        rw [enK_all hx hm]
        refine W_exit rfl ?_
        refine thenQ_x ?_
        refine thenQ_x ?_
        refine blkQ_x rfl ?_
        refine blkQ_n ?_
        refine thenQ_n ?_
        refine W_reg rfl ?_
        refine Rv rfl rfl rfl (U_move rfl) rfl rfl ?_
        refine Rv rfl rfl rfl (U_sub rfl rfl (w64 (by omega) (by omega))) rfl rfl ?_
        refine Rv rfl rfl rfl (U_assign rfl) rfl rfl ?_
        refine Re rfl ?_
        refine thenQ_n ?_
        exact againTo (T' := [(1, .rop [i64 ((n : Nat) : Int), .ros (ks.flatMap lkN) ks.length c] 0), (4, .ros ((bfL n ks).map n64) n none), (6, .slice 0 0 (1 <<< n) (1 <<< n)), (7, .slice 1 0 (1 <<< n) (1 <<< n)), (10, i64 (((m : Nat) : Int) - 1))]) (H' := [(0, some (.cells ((upK n (nxQ n ks) (1 <<< n) 0).map n64) 2)), (1, some (.cells ((enV n (nxQ n ks) (min m (full n))).map n64) 2))]) (n := 2) (0 + m) ⟨m, (by omega), rfl, rfl⟩ (by omega) id ⟨eD rfl rfl, eD rfl rfl, e_ rfl rfl, e_ rfl rfl, eD rfl rfl, trivial⟩ ⟨rD (mapD (fun _ => rfl) _) rfl rfl, rD (mapD (fun _ => rfl) _) rfl rfl, trivial⟩ rfl rfl rfl rfl (fun _ _ => rfl)
    · obtain rfl : s = 0 := by omega
      rw [Nat.zero_min]
      refine W_exit rfl ?_
      refine thenQ_x ?_
      refine thenQ_x ?_
      refine blkQ_x rfl ?_
      refine thenQ_n ?_
      refine W_seq rfl ?_
      refine W_reg rfl ?_
      refine Rv rfl rfl rfl (U_move rfl) rfl rfl ?_
      refine Rv rfl rfl rfl (U_move rfl) rfl rfl ?_
      refine Rv rfl rfl rfl (U_assign rfl) rfl rfl ?_
      refine Rv rfl rfl rfl (U_assign rfl) rfl rfl ?_
      refine Re rfl ?_
      refine thenQ_n ?_
      refine WfrN 0 rfl (mapD (fun _ => rfl) _) (T' := [(2, .ros ((upK n (nxQ n ks) (1 <<< n) 0).map n64) (1 <<< n) (some (1 <<< n))), (3, .slice 1 0 (1 <<< n) (1 <<< n))]) (H' := [(1, some (.cells ((enV n (nxQ n ks) 0).map n64) 2))]) ⟨⟨_, rfl, fr_sl (Nat.le_refl _)⟩, ⟨_, rfl, rfl⟩, trivial⟩ ⟨⟨rfl, rFD (mapD (fun _ => rfl) _) rfl⟩, trivial⟩ ?_
      refine WfrN 1 rfl (mapD (fun _ => rfl) _) (T' := [(2, .ros ((upK n (nxQ n ks) (1 <<< n) 0).map n64) (1 <<< n) (some (1 <<< n))), (3, .ros ((enV n (nxQ n ks) 0).map n64) (1 <<< n) (some (1 <<< n)))]) (H' := []) ⟨⟨_, rfl, rfl⟩, ⟨_, rfl, fr_sl (Nat.le_refl _)⟩, trivial⟩ trivial ?_
      refine WweakT (j := 2) rfl le_cap ?_
      refine WweakT (j := 3) rfl le_cap ?_
      refine W_ret rfl ?_
      exact retL (rlT rfl (rlT rfl rl0)) rfl rfl
end Go.Proofs.Ythmibifghihdaaa
end

section
namespace Go.Proofs.Ythmibifghihdaaa
set_option maxRecDepth 20000
open Go.AE
theorem countOf_p (n : Nat) (ks : List (Nat × Nat)) (c : Option Nat) (hv : VB n ks) : Pure Try.prog 70 [bknA n ks c] (i64 ((cntQ n ks : Nat) : Int)) := by
  have hv' := hv
  obtain ⟨hn1, hn, hkl, hk⟩ := hv'
  have h1024 := shl_le hn
  have h2n := shl_ge hn1
  refine pure_of_body Try.func70 (c := body Try.f70) rfl (by simp [Try.ntmps70]) fun w0 Φ0 => ?_
  refine W_seq rfl ?_
  refine W_reg rfl ?_
  refine Rv rfl rfl rfl (U_boxF rfl rfl rfl) rfl rfl ?_
  refine Rv rfl rfl rfl (U_assign rfl) rfl rfl ?_
  refine Re rfl ?_
  refine thenQ_n ?_
  refine W_seq rfl ?_
  refine W_reg rfl ?_
  refine Rv rfl rfl rfl (U_load2 rfl rfl rfl rfl) rfl rfl ?_
  refine Rv rfl rfl rfl (U_call rfl rfl (ways_p n ks c hv) rfl) rfl rfl ?_
  refine Rv rfl rfl rfl (U_move rfl) rfl rfl ?_
  refine Rv rfl rfl rfl (U_extract rfl rfl) rfl rfl ?_
  refine Rv rfl rfl rfl (U_extract rfl rfl) rfl rfl ?_
  refine Rv rfl rfl rfl (U_assign rfl) rfl rfl ?_
  refine Rv rfl rfl rfl (U_assign rfl) rfl rfl ?_
  refine Re rfl ?_
  refine thenQ_n ?_
  refine W_seq rfl ?_
  refine W_reg rfl ?_
  refine Rv rfl rfl rfl (U_move rfl) rfl rfl ?_
  refine Rv rfl rfl rfl (U_move rfl) rfl rfl ?_
  refine Rv rfl rfl rfl (U_lenOf rfl len_ros) rfl rfl ?_
  refine Rv rfl rfl rfl (U_sub rfl rfl (w64e (m := ((1 <<< n - 1 : Nat) : Int)) (by omega) (by omega) (by omega))) rfl rfl ?_
  have hul : (upK n (nxQ n ks) (1 <<< n) 0).length = 1 <<< n := upK_len
  have hx1 : (1 <<< n - 1) < (upK n (nxQ n ks) (1 <<< n) 0).length := by omega
  refine Rv rfl rfl rfl (U_indexR (j := (1 <<< n - 1)) rfl rfl rfl (by omega)) rfl rfl ?_
  refine Rv rfl rfl rfl (U_load1 rfl rfl (getM hx1)) rfl rfl ?_
  refine Rv rfl rfl rfl (U_assign rfl) rfl rfl ?_
  refine Re rfl ?_
  refine thenQ_n ?_
  refine W_ret rfl ?_
  exact retL (rlT rfl rl0) (by first | rfl | (simp only [packA]; rw [upK_end (show 1 <<< n - 1 < 2 ^ n by rw [← one_shl (n := n)]; omega), ← cnt_R hv, full_shl]; first | done | rfl)) rfl
end Go.Proofs.Ythmibifghihdaaa
end

section
namespace Go.Proofs.Ythmibifghihdaaa
set_option maxRecDepth 20000
open Go.AE
theorem nx_sameQ {n : Nat} {ks : List (Nat × Nat)} {m a : Nat} (hv : VB n ks) (hd : DC ks m) : nxB (briQ n ks) m a = nxQ n ks m a := nx_same hv (bfN_tb hv) hd
end Go.Proofs.Ythmibifghihdaaa
end

section
namespace Go.Proofs.Ythmibifghihdaaa
set_option maxRecDepth 20000
open Go.AE
section
variable {n : Nat} {ks : List (Nat × Nat)}
theorem en_sameQ (hv : VB n ks) {m : Nat} (hm : m < 2 ^ n) (hd : DC ks m) : en n (nxB (briQ n ks)) m = en n (nxQ n ks) m := by
  have := @cntN_le n m
  exact en_same hv (bfN_tb hv) (n - cntN n m) m (by omega) hm hd
theorem up_sameQ (hv : VB n ks) {m : Nat} (hm : m < 2 ^ n) : up n (nxB (briQ n ks)) m = up n (nxQ n ks) m := up_same hv (bfN_tb hv) _ m rfl hm
theorem nxB_DC (hv : VB n ks) {m : Nat} (hm : m < 2 ^ n) (h : up n (nxB (briQ n ks)) m ≠ 0) : DC ks m := up_dc (bfN_tb hv) (fun m a h => nxB_R hv (bfN_tb hv) h) _ m rfl hm h
theorem rnk_same (hv : VB n ks) {s : Nat} (hs : s < n) : rnkQ n (nxB (briQ n ks)) s = rnkQ n (nxQ n ks) s := by
  unfold rnkQ
  refine List.map_congr_left fun i _ => sum_congr fun m hm => ?_
  have hm := List.mem_range.1 hm
  by_cases h0 : up n (nxB (briQ n ks)) m = 0
  · rw [← up_sameQ hv hm, h0]; simp
  · have hd := nxB_DC hv hm h0
    rw [nx_sameQ hv hd, up_sameQ hv hm]
    split
    · rename_i h
      have h1 : nxQ n ks m s = true := by
        rw [Bool.and_eq_true] at h; exact h.1
      rw [en_sameQ hv (ad_lt hm hs) (dc_ad hd ((nxR_iff (bfN_tb hv)).1 h1).2)]
    · rfl
end
end Go.Proofs.Ythmibifghihdaaa
end

section
namespace Go.Proofs.Ythmibifghihdaaa
set_option maxRecDepth 20000
open Go.AE
section
variable {n : Nat} {nx : Nat → Nat → Bool}
theorem fwd_fresh (hx : Nxt nx) : ∀ {o : List Nat} {m : Nat}, Fwd n nx m o → o.Nodup ∧ (∀ x ∈ o, m.testBit x = false ∧ x < n)
  | [], m, _ => ⟨List.nodup_nil, by simp⟩
  | a :: o, m, ⟨h1, h2, h3⟩ => by
    obtain ⟨h4, h5⟩ := fwd_fresh hx h3
    have h6 : ∀ x ∈ o, m.testBit x = false ∧ a ≠ x ∧ x < n := fun x hxm => by
      have := h5 x hxm
      rw [ad_tb, Bool.or_eq_false_iff, decide_eq_false_iff_not] at this
      exact ⟨this.1.1, this.1.2, this.2⟩
    refine ⟨List.nodup_cons.2 ⟨fun h => (h6 a h).2.1 rfl, h4⟩, fun x hxm => ?_⟩
    rcases List.mem_cons.1 hxm with rfl | h
    · exact ⟨hx _ _ h2, h1⟩
    · exact ⟨(h6 x h).1, (h6 x h).2.2⟩
end
section
variable {n : Nat} {ks : List (Nat × Nat)}
end
end Go.Proofs.Ythmibifghihdaaa
end

section
namespace Go.Proofs.Ythmibifghihdaaa
set_option maxRecDepth 20000
open Go.AE
def grt (b : Bk) : Bool := decide ((50 : Int) < b.ls.length)
theorem great_p (b : Bk) (c : Option Nat) : Pure Try.prog 18 [bookA b c] (.bool (grt b)) := by
  refine pure_of_body Try.func18 (c := body Try.f18) rfl (by simp [Try.ntmps18]) fun w0 Φ0 => ?_
  refine W_seq rfl ?_
  refine W_reg rfl ?_
  refine Rv rfl rfl rfl (U_boxF rfl rfl rfl) rfl rfl ?_
  refine Rv rfl rfl rfl (U_assign rfl) rfl rfl ?_
  refine Re rfl ?_
  refine thenQ_n ?_
  refine W_seq rfl ?_
  refine W_reg rfl ?_
  refine Rv rfl rfl rfl (U_fieldAddrR rfl) rfl rfl ?_
  refine Rv rfl rfl rfl (U_load1 rfl rfl rfl) rfl rfl ?_
  refine Rv rfl rfl rfl (U_lenOf rfl len_ros) rfl rfl ?_
  refine Rv rfl rfl rfl (U_gtr rfl rfl) rfl rfl ?_
  refine Rv rfl rfl rfl (U_assign rfl) rfl rfl ?_
  refine Re rfl ?_
  refine thenQ_n ?_
  refine W_ret rfl ?_
  exact retL (rlT rfl rl0) (by first | rfl | (simp only [packA]; rfl; first | done | rfl)) rfl
end Go.Proofs.Ythmibifghihdaaa
end

section
namespace Go.Proofs.Ythmibifghihdaaa
set_option maxRecDepth 20000
open Go.AE
theorem grt_l {b : Bk} (h : grt b = false) : b.ls.length ≤ 1000000 := by simp [grt] at h; omega
end Go.Proofs.Ythmibifghihdaaa
end

section
namespace Go.Proofs.Ythmibifghihdaaa
set_option maxRecDepth 20000
open Go.AE
section
variable {n : Nat} {ks : List (Nat × Nat)}
theorem ordS_fwd (hv : VB n ks) (ha : Acy n ks) : ∀ k, k ≤ n → Fwd n (nxQ n ks) 0 (ordS n (briQ n ks) k).1 ∧ stO (ordS n (briQ n ks) k).1 = (ordS n (briQ n ks) k).2
  | 0, _ => ⟨trivial, rfl⟩
  | k + 1, hk => by
    obtain ⟨h1, h2⟩ := ordS_fwd hv ha k (by omega)
    obtain ⟨a, l, e⟩ := ordS_some hv ha (show k < n by omega)
    have hm : a ∈ nxL n (briQ n ks) (ordS n (briQ n ks) k).2 := by rw [e]; simp
    have hx := nxL_mem.1 hm
    rw [ordS_S e]
    refine ⟨fwd_app.2 ⟨h1, ?_⟩, ?_⟩
    · rw [Nat.zero_or, h2]
      exact ⟨hx.1, nxB_R hv (bfN_tb hv) hx.2, trivial⟩
    · rw [stO_app, h2]
theorem ordG_is (hv : VB n ks) (ha : Acy n ks) : IsO n ks (ordG n ks) := by
  obtain ⟨h1, _⟩ := ordS_fwd hv ha n (Nat.le_refl _)
  obtain ⟨h3, h4, h5⟩ := (fwd_plc hv _).1 h1
  have h6 := (ordS_ok hv ha n (Nat.le_refl _)).1
  exact ⟨h6, h3, h4, fun p hp => (h5 p hp (all_in h3 h6 h4 (hv.2.2.2 p hp).2.1)).2⟩
theorem chkON_0 (hv : VB n ks) {q : List Nat} (hq : ∀ x ∈ q, x < n) (hl : q.length = n) : chkON ks q = 0 ↔ IsO n ks q := by
  by_cases hn : q.Nodup
  · rw [chkON_iff hv ⟨hl, hn, hq⟩]
    exact ⟨fun h => ⟨hl, hn, hq, h⟩, fun h => h.2.2.2⟩
  · constructor
    · intro h
      unfold chkON at h
      rw [if_pos hn] at h
      exact absurd h (by decide)
    · intro h; exact absurd h.2.1 hn
end
end Go.Proofs.Ythmibifghihdaaa
end

section
namespace Go.Proofs.Ythmibifghihdaaa
set_option maxRecDepth 20000
open Go.AE
def fneB (b : Bk) : Bool := !grt b && decide (chkB b = 0)
theorem fine_p (b : Bk) (c : Option Nat) : Pure Try.prog 46 [bookA b c] (.bool (fneB b)) := by
  refine pure_of_body Try.func46 (c := body Try.f46) rfl (by simp [Try.ntmps46]) fun w0 Φ0 => ?_
  refine W_seq rfl ?_
  refine W_reg rfl ?_
  refine Rv rfl rfl rfl (U_boxF rfl rfl rfl) rfl rfl ?_
  refine Rv rfl rfl rfl (U_assign rfl) rfl rfl ?_
  refine Re rfl ?_
  refine thenQ_n ?_
  refine W_seq rfl ?_
  refine Wjoin ⟨[(2, .bool ((!(grt b)) && (decide ((chkB b) = 0))))], [], 0, []⟩ ?_ ?_
  · refine W_reg rfl ?_
    refine Rv rfl rfl rfl (U_load2 rfl rfl rfl rfl) rfl rfl ?_
    refine Rv rfl rfl rfl (U_call rfl rfl (great_p b c) rfl) rfl rfl ?_
    refine Rv rfl rfl rfl (U_not rfl) rfl rfl ?_
    refine Rv rfl rfl rfl (U_move rfl) rfl rfl ?_
    refine Rsplit (t := 6) rfl (fun hg1 => ?_) (fun hg1 => ?_)
    · rw [hg1]
      have hgr : grt b = false := by simpa using hg1
      have hl := grt_l hgr
      refine Rv rfl rfl rfl (U_load2 rfl rfl rfl rfl) rfl rfl ?_
      refine Rv rfl rfl rfl (U_call rfl rfl (chkBR_p b c hl) rfl) rfl rfl ?_
      refine Rv rfl rfl rfl (U_eql rfl rfl) rfl rfl ?_
      refine Rv rfl rfl rfl (U_pick_t rfl rfl) rfl rfl ?_
      refine Rv rfl rfl rfl (U_assign rfl) rfl rfl ?_
      refine Re rfl ?_
      exact joinTo id ⟨eD rfl rfl, trivial⟩ trivial rfl rfl rfl rfl (fun _ _ => rfl)
    · rw [hg1]
      refine Rs rfl rfl rfl rfl rfl ?_
      refine Rs rfl rfl rfl rfl rfl ?_
      refine Rs rfl rfl rfl rfl rfl ?_
      refine Rv rfl rfl rfl (U_pick_f rfl rfl) rfl rfl ?_
      refine Rv rfl rfl rfl (U_assign rfl) rfl rfl ?_
      refine Re rfl ?_
      exact joinTo id ⟨eD rfl rfl, trivial⟩ trivial rfl rfl rfl rfl (fun _ _ => rfl)
  refine thenQ_n ?_
  refine W_ret rfl ?_
  exact retL (rlT rfl rl0) (by first | rfl | (simp only [packA]; rfl; first | done | rfl)) rfl
theorem fine_F (b : Bk) (c : Option Nat) (h : fneB b = false) : Pure Try.prog 46 [bookA b c] (.bool false) := by have := fine_p b c; rwa [h] at this
theorem fine_T (b : Bk) (c : Option Nat) (h : fneB b = true) : Pure Try.prog 46 [bookA b c] (.bool true) := by have := fine_p b c; rwa [h] at this
theorem fne_ok {b : Bk} (h : fneB b = true) : chkB b = 0 := by
  unfold fneB at h
  rw [Bool.and_eq_true, decide_eq_true_eq] at h
  exact h.2
end Go.Proofs.Ythmibifghihdaaa
end

section
namespace Go.Proofs.Ythmibifghihdaaa
set_option maxRecDepth 20000
open Go.AE
section
variable {n : Nat} {nx : Nat → Nat → Bool}
def elC (n : Nat) (nx : Nat → Nat → Bool) : Nat → Nat → List (List Nat)
  | 0, m => if m = full n then [[]] else []
  | f + 1, m => if m = full n then [[]] else (List.range n).flatMap fun a => if nx m a = true then (elC n nx f (ad m a)).map (a :: ·) else []
theorem elC_len : ∀ (f m : Nat), (elC n nx f m).length = enC n nx f m
  | 0, m => by unfold elC enC; split <;> rfl
  | f + 1, m => by
    unfold elC enC
    split
    · rfl
    · rw [List.length_flatMap]
      refine sum_congr fun a _ => ?_
      split
      · rw [List.length_map, elC_len f]
      · rfl
theorem elC_nodup : ∀ (f m : Nat), (elC n nx f m).Nodup
  | 0, m => by unfold elC; split <;> simp
  | f + 1, m => by
    unfold elC
    split
    · simp
    · refine flat_nodup List.nodup_range (fun a _ => ?_) fun a _ b _ hab x hxa hxb => ?_
      · split
        · exact map_nodup (fun x y h => by simpa using h) (elC_nodup f _)
        · simp
      · split at hxa
        · split at hxb
          · obtain ⟨p, _, rfl⟩ := List.mem_map.1 hxa
            obtain ⟨q, _, e⟩ := List.mem_map.1 hxb
            simp only [List.cons.injEq] at e
            exact hab e.1.symm
          · simp at hxb
        · simp at hxa
theorem fwd_full (hx : Nxt nx) {o : List Nat} (h : Fwd n nx (full n) o) : o = [] := by
  cases o with
  | nil => rfl
  | cons a o =>
    have h1 := hx _ _ h.2.1
    rw [full_tb, decide_eq_false_iff_not] at h1
    exact absurd h.1 h1
theorem elC_mem (hx : Nxt nx) : ∀ (f m : Nat) (o : List Nat), m < 2 ^ n → n ≤ f + cntN n m → (o ∈ elC n nx f m ↔ Fwd n nx m o ∧ m ||| stO o = full n)
  | 0, m, o, hm, hf => by
    have e : m = full n := Classical.byContradiction fun h => by have := cnt_lt hm h; omega
    subst e
    simp only [elC, if_true, List.mem_singleton]
    constructor
    · rintro rfl; exact ⟨trivial, by simp [stO]⟩
    · rintro ⟨h, _⟩; exact fwd_full hx h
  | f + 1, m, o, hm, hf => by
    unfold elC
    split
    · rename_i e; subst e
      rw [List.mem_singleton]
      constructor
      · rintro rfl; exact ⟨trivial, by simp [stO]⟩
      · rintro ⟨h, _⟩; exact fwd_full hx h
    · rename_i hne
      rw [List.mem_flatMap]
      constructor
      · rintro ⟨a, ha, h⟩
        have ha := List.mem_range.1 ha
        split at h
        · rename_i hu
          obtain ⟨p, hp, rfl⟩ := List.mem_map.1 h
          have hc := cnt_ad ha (hx _ _ hu)
          have h1 := (elC_mem hx f (ad m a) p (ad_lt hm ha) (by omega)).1 hp
          refine ⟨⟨ha, hu, h1.1⟩, ?_⟩
          rw [← h1.2]
          show m ||| (stO p ||| 1 <<< a) = (m ||| 1 <<< a) ||| stO p
          rw [Nat.or_assoc, Nat.or_comm (1 <<< a)]
        · simp at h
      · rintro ⟨h1, h2⟩
        cases o with
        | nil => simp [stO] at h2; exact absurd h2 hne
        | cons a p =>
          obtain ⟨ha, hu, hp⟩ := h1
          refine ⟨a, List.mem_range.2 ha, ?_⟩
          rw [if_pos hu]
          have hc := cnt_ad ha (hx _ _ hu)
          refine List.mem_map.2 ⟨p, (elC_mem hx f (ad m a) p (ad_lt hm ha) (by omega)).2 ⟨hp, ?_⟩, rfl⟩
          rw [← h2]
          show (m ||| 1 <<< a) ||| stO p = m ||| (stO p ||| 1 <<< a)
          rw [Nat.or_assoc, Nat.or_comm (1 <<< a)]
end
section
variable {n : Nat} {ks : List (Nat × Nat)}
def bhL (n : Nat) (ks : List (Nat × Nat)) (s m : Nat) : List (List Nat) := (ulC n (nxQ n ks) n m).flatMap fun p => (elC n (nxQ n ks) n (ad m s)).map fun q => p ++ s :: q
theorem len_const {α : Type} {f : α → List (List Nat)} {c : Nat} : ∀ {l : List α}, (∀ a ∈ l, (f a).length = c) → (l.flatMap f).length = l.length * c
  | [], _ => by simp
  | a :: l, h => by
    rw [List.flatMap_cons, List.length_append, h a (by simp), len_const fun b hb => h b (by simp [hb]), List.length_cons, Nat.add_mul]; omega
theorem bhL_len {s m : Nat} : (bhL n ks s m).length = up n (nxQ n ks) m * en n (nxQ n ks) (ad m s) := by
  unfold bhL
  rw [len_const (c := en n (nxQ n ks) (ad m s)) fun p _ => by rw [List.length_map, elC_len]; rfl, ulC_len]; rfl
theorem bhL_mem {s m : Nat} (hs : s < n) (hm : m < 2 ^ n) (hx : nxQ n ks m s = true) {o : List Nat} : o ∈ bhL n ks s m ↔ ∃ p q, o = p ++ s :: q ∧ stO p = m ∧ Fwd n (nxQ n ks) 0 o ∧ stO o = full n := by
  have hc := cnt_ad hs (nxQ_nxt _ _ hx)
  have hcl := @cntN_le n m
  have key : ∀ p q : List Nat, stO (p ++ s :: q) = ad (stO p) s ||| stO q := fun p q => by
    apply Nat.eq_of_testBit_eq; intro b
    rw [Bool.eq_iff_iff, stO_tb, Nat.testBit_or, ad_tb, Bool.or_eq_true, Bool.or_eq_true, stO_tb, stO_tb, decide_eq_true_eq, List.mem_append, List.mem_cons]
    constructor
    · rintro (h | h | h)
      · exact .inl (.inl h)
      · exact .inl (.inr h.symm)
      · exact .inr h
    · rintro ((h | h) | h)
      · exact .inl h
      · exact .inr (.inl h.symm)
      · exact .inr (.inr h)
  unfold bhL
  rw [List.mem_flatMap]
  constructor
  · rintro ⟨p, hp, h⟩
    obtain ⟨q, hq, rfl⟩ := List.mem_map.1 h
    have h1 := (ulC_mem nxQ_nxt n m p hm hcl).1 hp
    have h2 := (elC_mem nxQ_nxt n (ad m s) q (ad_lt hm hs) (by omega)).1 hq
    refine ⟨p, q, rfl, h1.2, fwd_app.2 ⟨h1.1, ?_⟩, ?_⟩
    · rw [Nat.zero_or, h1.2]; exact ⟨hs, hx, h2.1⟩
    · rw [key, h1.2]; exact h2.2
  · rintro ⟨p, q, rfl, h1, h2, h3⟩
    obtain ⟨h4, h5⟩ := fwd_app.1 h2
    rw [Nat.zero_or, h1] at h5
    rw [key, h1] at h3
    exact ⟨p, (ulC_mem nxQ_nxt n m p hm hcl).2 ⟨h4, h1⟩, List.mem_map.2 ⟨q, (elC_mem nxQ_nxt n (ad m s) q (ad_lt hm hs) (by omega)).2 ⟨h5.2.2, h3⟩, rfl⟩⟩
end
end Go.Proofs.Ythmibifghihdaaa
end

section
namespace Go.Proofs.Ythmibifghihdaaa
set_option maxRecDepth 20000
open Go.AE
section
variable {n : Nat} {ks : List (Nat × Nat)}
theorem plc_at {p q : List Nat} {s : Nat} (h : s ∉ p) : plc (p ++ s :: q) s = p.length := by
  have : plc ((p ++ [s]) ++ q) s = p.length := by
    unfold plc idxI
    rw [List.findIdx?_append, List.findIdx?_append]
    have e : p.findIdx? (fun y => decide (s = y)) = none := by
      rw [List.findIdx?_eq_none_iff]
      intro y hy; simp; rintro rfl; exact h hy
    rw [e]; simp
  rw [List.append_assoc] at this; exact this
theorem split_eq {p q p' q' : List Nat} {s : Nat} (h : s ∉ p) (h' : s ∉ p') (e : p ++ s :: q = p' ++ s :: q') : p = p' := by
  have h1 := plc_at (q := q) h
  rw [e, plc_at h'] at h1
  exact List.append_inj_left e (by omega)
theorem nx_out {m s : Nat} (hx : nxQ n ks m s = true) {p : List Nat} (hp : stO p = m) : s ∉ p := fun h => by
  have h1 := nxQ_nxt _ _ hx
  rw [← hp, stO_tb.2 h] at h1; cases h1
theorem bhL_nodup {s m : Nat} (hm : m < 2 ^ n) (hx : nxQ n ks m s = true) : (bhL n ks s m).Nodup := by
  unfold bhL
  have hcl := @cntN_le n m
  refine flat_nodup (ulC_nodup _ _) (fun p _ => map_nodup (fun x y h => ?_) (elC_nodup _ _)) fun p hp p' hp' hne x hxp hxp' => ?_
  · have := List.append_cancel_left h; simpa using this
  · obtain ⟨q, _, rfl⟩ := List.mem_map.1 hxp
    obtain ⟨q', _, e⟩ := List.mem_map.1 hxp'
    have h1 := (ulC_mem nxQ_nxt n m p hm hcl).1 hp
    have h2 := (ulC_mem nxQ_nxt n m p' hm hcl).1 hp'
    exact hne (split_eq (nx_out hx h1.2) (nx_out hx h2.2) e.symm)
def rnL (n : Nat) (ks : List (Nat × Nat)) (s i : Nat) : List (List Nat) := (List.range (2 ^ n)).flatMap fun m => if (nxQ n ks m s && decide (popN m = i)) = true then bhL n ks s m else []
theorem rnL_len {s i : Nat} (h : i < (rnkQ n (nxQ n ks) s).length) : (rnL n ks s i).length = (rnkQ n (nxQ n ks) s)[i] := by
  have e : (rnkQ n (nxQ n ks) s)[i] = ((List.range (2 ^ n)).map fun m => if (nxQ n ks m s && decide (popN m = i)) = true then up n (nxQ n ks) m * en n (nxQ n ks) (ad m s) else 0).sum := by simp [rnkQ]
  rw [e, rnL, List.length_flatMap]
  refine sum_congr fun m _ => ?_
  split
  · rw [bhL_len]
  · rfl
theorem rnL_nodup {s i : Nat} (hs : s < n) : (rnL n ks s i).Nodup := by
  refine flat_nodup List.nodup_range (fun m hm => ?_) fun m hm m' hm' hne x hx hx' => ?_
  · split
    · rename_i h; rw [Bool.and_eq_true] at h; exact bhL_nodup (List.mem_range.1 hm) h.1
    · simp
  · split at hx
    · split at hx'
      · rename_i h h'
        rw [Bool.and_eq_true] at h h'
        obtain ⟨p, q, e, h1, _⟩ := (bhL_mem hs (List.mem_range.1 hm) h.1).1 hx
        obtain ⟨p', q', e', h1', _⟩ := (bhL_mem hs (List.mem_range.1 hm') h'.1).1 hx'
        have := split_eq (nx_out h.1 h1) (nx_out h'.1 h1') (e.symm.trans e')
        subst this
        exact hne (h1.symm.trans h1')
      · simp at hx'
    · simp at hx
theorem rnL_mem (hn : n ≤ 10) {s i : Nat} (hs : s < n) {o : List Nat} : o ∈ rnL n ks s i ↔ o ∈ oll n ks ∧ plc o s = i := by
  have ho : o ∈ oll n ks ↔ Fwd n (nxQ n ks) 0 o ∧ stO o = full n := by
    rw [oll, ulC_mem nxQ_nxt n (full n) o full_lt (by rw [full_cnt]; exact Nat.le_refl _)]
  unfold rnL
  rw [List.mem_flatMap, ho]
  constructor
  · rintro ⟨m, hm, h⟩
    have hm := List.mem_range.1 hm
    split at h
    · rename_i hc
      rw [Bool.and_eq_true, decide_eq_true_eq] at hc
      obtain ⟨p, q, rfl, h1, h2, h3⟩ := (bhL_mem hs hm hc.1).1 h
      refine ⟨⟨h2, h3⟩, ?_⟩
      have h4 := fwd_fresh nxQ_nxt (fwd_app.1 h2).1
      rw [plc_at (nx_out hc.1 h1), ← cnt_set h4.1 fun x hx => (h4.2 x hx).2, h1, ← hc.2, pop_cnt hn hm]
    · simp at h
  · rintro ⟨⟨h2, h3⟩, h4⟩
    have hso : s ∈ o := plc_mem.1 (by omega)
    obtain ⟨p, q, hp, rfl⟩ : ∃ p q, s ∉ p ∧ o = p ++ s :: q := by
      have : ∀ o : List Nat, s ∈ o → ∃ p q, s ∉ p ∧ o = p ++ s :: q := by
        intro o
        induction o with
        | nil => intro h; simp at h
        | cons a o ih =>
          intro h
          by_cases e : s = a
          · subst e; exact ⟨[], o, by simp, rfl⟩
          · rcases List.mem_cons.1 h with h | h
            · exact absurd h e
            · obtain ⟨p, q, h1, rfl⟩ := ih h
              exact ⟨a :: p, q, by simp [e, h1], rfl⟩
      exact this o hso
    rw [plc_at hp] at h4
    have h5 := fwd_app.1 h2
    rw [Nat.zero_or] at h5
    have h6 := fwd_fresh nxQ_nxt h5.1
    have hlt : stO p < 2 ^ n := stO_lt fun x hx => (h6.2 x hx).2
    refine ⟨stO p, List.mem_range.2 hlt, ?_⟩
    have hx : nxQ n ks (stO p) s = true := h5.2.2.1
    rw [if_pos (by
      rw [hx, Bool.true_and, decide_eq_true_eq, pop_cnt hn hlt, cnt_set h6.1 fun x hx => (h6.2 x hx).2]; omega)]
    exact (bhL_mem hs hlt hx).2 ⟨p, q, rfl, rfl, h2, h3⟩
theorem rnk_cnt (hn : n ≤ 10) {s i : Nat} (hs : s < n) (h : i < (rnkQ n (nxQ n ks) s).length) : (rnkQ n (nxQ n ks) s)[i] = (oll n ks).countP fun o => decide (plc o s = (i : Int)) := by
  rw [← rnL_len h, List.countP_eq_length_filter]
  refine (nodup_permL (rnL_nodup hs) (List.Pairwise.filter _ oll_nodup) fun o => ?_).length_eq
  rw [rnL_mem hn hs, List.mem_filter, decide_eq_true_eq]
end
end Go.Proofs.Ythmibifghihdaaa
end

section
namespace Go.Proofs.Ythmibifghihdaaa
set_option maxRecDepth 20000
open Go.AE
section
variable {n : Nat} {ks : List (Nat × Nat)}
theorem plc_get {o : List Nat} (hn : o.Nodup) {i : Nat} (hi : i < o.length) : plc o o[i] = i := idx_at hn hi
theorem rnk_len {s : Nat} : (rnkQ n (nxQ n ks) s).length = n := by simp [rnkQ]
theorem rnk_getD (hn : n ≤ 10) {s i : Nat} (hs : s < n) (hi : i < n) : (rnkQ n (nxQ n ks) s).getD i 0 = (oll n ks).countP fun o => decide (plc o s = (i : Int)) := by
  rw [getD_eq (by rw [rnk_len]; exact hi), rnk_cnt hn hs]
end
end Go.Proofs.Ythmibifghihdaaa
end

section
namespace Go.Proofs.Ythmibifghihdaaa
set_option maxRecDepth 20000
open Go.AE
theorem ordered_F (b : Bk) (c : Option Nat) (hf : fneB b = false) : Pure Try.prog 47 [bookA b c] (.bool false) := by
  refine pure_of_body Try.func47 (c := body Try.f47) rfl (by simp [Try.ntmps47]) fun w0 Φ0 => ?_
  refine W_seq rfl ?_
  refine W_reg rfl ?_
  refine Rv rfl rfl rfl (U_boxF rfl rfl rfl) rfl rfl ?_
  refine Rv rfl rfl rfl (U_assign rfl) rfl rfl ?_
  refine Re rfl ?_
  refine thenQ_n ?_
  refine W_seq rfl ?_
  refine W_reg rfl ?_
  refine Rv rfl rfl rfl (U_load2 rfl rfl rfl rfl) rfl rfl ?_
  refine Rv rfl rfl rfl (U_call rfl rfl (fine_F b c hf) rfl) rfl rfl ?_
  refine Rv rfl rfl rfl (U_move rfl) rfl rfl ?_
  refine Rs rfl rfl rfl rfl rfl ?_
  refine Rs rfl rfl rfl rfl rfl ?_
  refine Rs rfl rfl rfl rfl rfl ?_
  refine Rv rfl rfl rfl (U_pick_f rfl rfl) rfl rfl ?_
  refine Rv rfl rfl rfl (U_assign rfl) rfl rfl ?_
  refine Re rfl ?_
  refine thenQ_n ?_
  refine W_ret rfl ?_
  exact retL (rlT rfl rl0) rfl rfl
theorem ordered_Y (n : Nat) (ks : List (Nat × Nat)) (c : Option Nat) (hv : VB n ks) (hf : Pure Try.prog 46 [bknA n ks c] (.bool true)) (g : Nat) (hg : Cyc n ks g) : Pure Try.prog 47 [bknA n ks c] (.bool false) := by
  refine pure_of_body Try.func47 (c := body Try.f47) rfl (by simp [Try.ntmps47]) fun w0 Φ0 => ?_
  refine W_seq rfl ?_
  refine W_reg rfl ?_
  refine Rv rfl rfl rfl (U_boxF rfl rfl rfl) rfl rfl ?_
  refine Rv rfl rfl rfl (U_assign rfl) rfl rfl ?_
  refine Re rfl ?_
  refine thenQ_n ?_
  refine W_seq rfl ?_
  refine W_reg rfl ?_
  refine Rv rfl rfl rfl (U_load2 rfl rfl rfl rfl) rfl rfl ?_
  refine Rv rfl rfl rfl (U_call rfl rfl (hf) rfl) rfl rfl ?_
  refine Rv rfl rfl rfl (U_move rfl) rfl rfl ?_
  refine Rv rfl rfl rfl (U_load2 rfl rfl rfl rfl) rfl rfl ?_
  refine Rv rfl rfl rfl (U_call rfl rfl (countOf_p n ks c hv) rfl) rfl rfl ?_
  refine Rv rfl rfl rfl (OpU.toB (U_gtr rfl rfl) (decide_eq_false (by rw [cnt_cyc hv hg]; simp))) rfl rfl ?_
  refine Rv rfl rfl rfl (U_pick_t rfl rfl) rfl rfl ?_
  refine Rv rfl rfl rfl (U_assign rfl) rfl rfl ?_
  refine Re rfl ?_
  refine thenQ_n ?_
  refine W_ret rfl ?_
  exact retL (rlT rfl rl0) rfl rfl
theorem ordered_A (n : Nat) (ks : List (Nat × Nat)) (c : Option Nat) (hv : VB n ks) (hf : Pure Try.prog 46 [bknA n ks c] (.bool true)) (ha : Acy n ks) : Pure Try.prog 47 [bknA n ks c] (.bool true) := by
  refine pure_of_body Try.func47 (c := body Try.f47) rfl (by simp [Try.ntmps47]) fun w0 Φ0 => ?_
  refine W_seq rfl ?_
  refine W_reg rfl ?_
  refine Rv rfl rfl rfl (U_boxF rfl rfl rfl) rfl rfl ?_
  refine Rv rfl rfl rfl (U_assign rfl) rfl rfl ?_
  refine Re rfl ?_
  refine thenQ_n ?_
  refine W_seq rfl ?_
  refine W_reg rfl ?_
  refine Rv rfl rfl rfl (U_load2 rfl rfl rfl rfl) rfl rfl ?_
  refine Rv rfl rfl rfl (U_call rfl rfl (hf) rfl) rfl rfl ?_
  refine Rv rfl rfl rfl (U_move rfl) rfl rfl ?_
  refine Rv rfl rfl rfl (U_load2 rfl rfl rfl rfl) rfl rfl ?_
  refine Rv rfl rfl rfl (U_call rfl rfl (countOf_p n ks c hv) rfl) rfl rfl ?_
  refine Rv rfl rfl rfl (OpU.toB (U_gtr rfl rfl) (decide_eq_true (by have := cnt_acy hv ha; omega))) rfl rfl ?_
  refine Rv rfl rfl rfl (U_pick_t rfl rfl) rfl rfl ?_
  refine Rv rfl rfl rfl (U_assign rfl) rfl rfl ?_
  refine Re rfl ?_
  refine thenQ_n ?_
  refine W_ret rfl ?_
  exact retL (rlT rfl rl0) rfl rfl
theorem ranksQ_p (n : Nat) (ks : List (Nat × Nat)) (c : Option Nat) (hv : VB n ks) (h40 : ks.length ≤ 40) (ha : Acy n ks) (s : Nat) (hs : s < n) : Pure Try.prog 39 [bknA n ks c, i64 (s : Nat)] (.tup [natsA (rnkQ n (nxQ n ks) s) none, i64 0]) := by
  have h := ranks_g n ks c hv h40 ha s hs
  rw [rnk_same hv hs] at h
  rw [natsA, rnk_len]; exact h
theorem cntA_p (n : Nat) (ks : List (Nat × Nat)) (c : Option Nat) (hv : VB n ks) (h40 : ks.length ≤ 40) (ha : Acy n ks) : Pure Try.prog 28 [bknA n ks c] (.tup [i64 ((cntQ n ks : Nat) : Int), i64 0]) := countP_a n ks c hv h40 ha
end Go.Proofs.Ythmibifghihdaaa
end

section
namespace Go.Proofs.Ythmibifghihdaaa
set_option maxRecDepth 20000
open Go.AE
theorem isO_mem {n : Nat} {ks : List (Nat × Nat)} {q : List Nat} (h : IsO n ks q) {s : Nat} (hs : s < n) : s ∈ q := by
  refine Classical.byContradiction fun hc => ?_
  have := nodup_len (l := s :: q) (m := List.range n) (List.nodup_cons.2 ⟨hc, h.2.1⟩) (fun x hx => by rcases List.mem_cons.1 hx with rfl | hx; exact List.mem_range.2 hs; exact List.mem_range.2 (h.2.2.1 x hx))
  simp [h.1] at this; omega
end Go.Proofs.Ythmibifghihdaaa
end

section
namespace Go.Proofs.Ythmibifghihdaaa
set_option maxRecDepth 20000
open Go.AE
section
variable {n : Nat} {ks : List (Nat × Nat)}
def revK (ks : List (Nat × Nat)) : List (Nat × Nat) := ks.map fun p => (p.2, p.1)
theorem revK_len : (revK ks).length = ks.length := by simp [revK]
theorem revK_rev : revK (revK ks) = ks := by
  unfold revK; rw [List.map_map]; exact (List.map_congr_left fun _ _ => rfl).trans (List.map_id ks)
theorem revK_mem {p : Nat × Nat} : p ∈ revK ks ↔ (p.2, p.1) ∈ ks := by
  unfold revK
  rw [List.mem_map]
  constructor
  · rintro ⟨q, hq, rfl⟩; exact hq
  · intro h; exact ⟨_, h, rfl⟩
theorem revK_vb (hv : VB n ks) : VB n (revK ks) := ⟨hv.1, hv.2.1, by rw [revK_len]; exact hv.2.2.1, fun p hp => by
  have := hv.2.2.2 _ (revK_mem.1 hp)
  exact ⟨this.2.1, this.1, Ne.symm this.2.2⟩⟩
theorem revK_S {i : Nat} (h : i < ks.length) : (revK ks).take (i + 1) = (revK ks).take i ++ [(ks[i].2, ks[i].1)] := by
  rw [List.take_succ_eq_append_getElem (by rw [revK_len]; exact h)]; simp [revK]
theorem plc_some {o : List Nat} {x : Nat} (hx : x ∈ o) : ∃ k, ∃ h : k < o.length, o[k] = x ∧ ∀ (hn : o.Nodup), plc o x = k := by
  obtain ⟨k, hk, e⟩ := List.getElem_of_mem hx
  exact ⟨k, hk, e, fun hn => by rw [← e]; exact plc_get hn hk⟩
theorem plc_rev {o : List Nat} (hn : o.Nodup) {x : Nat} (hx : x ∈ o) : plc o.reverse x = (o.length : Int) - 1 - plc o x := by
  obtain ⟨k, hk, e, h⟩ := plc_some hx
  rw [h hn]
  have hn' : o.reverse.Nodup := (List.reverse_perm o).nodup_iff.2 hn
  have hk' : o.length - 1 - k < o.reverse.length := by rw [List.length_reverse]; omega
  have e' : o.reverse[o.length - 1 - k] = x := by rw [List.getElem_reverse, ← e]; congr 1; omega
  have := plc_get hn' hk'
  rw [e'] at this
  rw [this]; omega
theorem isP_rev {o : List Nat} (h : IsP n o) : IsP n o.reverse := ⟨by rw [List.length_reverse]; exact h.1, (List.reverse_perm o).nodup_iff.2 h.2.1, fun x hx => h.2.2 x (List.mem_reverse.1 hx)⟩
theorem isP_mem {o : List Nat} (h : IsP n o) {s : Nat} (hs : s < n) : s ∈ o :=
  isO_mem (ks := []) ⟨h.1, h.2.1, h.2.2, fun p hp => absurd hp (by simp)⟩ hs
theorem isO_P {o : List Nat} (h : IsO n ks o) : IsP n o := ⟨h.1, h.2.1, h.2.2.1⟩
theorem isO_rev (hv : VB n ks) {o : List Nat} (h : IsO n ks o) : IsO n (revK ks) o.reverse := by
  have hp := isP_rev (isO_P h)
  refine ⟨hp.1, hp.2.1, hp.2.2, fun p hp => ?_⟩
  have hm := revK_mem.1 hp
  have hb := hv.2.2.2 _ hm
  rw [plc_rev h.2.1 (isO_mem h hb.2.1), plc_rev h.2.1 (isO_mem h hb.1)]
  have := h.2.2.2 _ hm
  simp only at this ⊢
  omega
theorem rev_perm {L M : List (List Nat)} (hL : L.Nodup) (hM : M.Nodup) (h : ∀ o, o ∈ M ↔ o.reverse ∈ L) : M.Perm (L.map List.reverse) := by
  refine nodup_permL hM (map_nodup (fun x y e => by rw [← List.reverse_reverse x, e, List.reverse_reverse]) hL) fun o => ?_
  rw [h, List.mem_map]
  constructor
  · intro ho; exact ⟨_, ho, List.reverse_reverse o⟩
  · rintro ⟨q, hq, rfl⟩; rwa [List.reverse_reverse]
theorem isO_rev_iff (hv : VB n ks) {o : List Nat} : IsO n (revK ks) o ↔ IsO n ks o.reverse := by
  constructor
  · intro h; have := isO_rev (revK_vb hv) h; rwa [revK_rev] at this
  · intro h; have := isO_rev hv h; rwa [List.reverse_reverse] at this
theorem oll_rev (hv : VB n ks) : (oll n (revK ks)).Perm ((oll n ks).map List.reverse) :=
  rev_perm oll_nodup oll_nodup fun o => by rw [oll_mem hv, oll_mem (revK_vb hv), isO_rev_iff hv]
theorem cnt_rev (hv : VB n ks) : cntQ n (revK ks) = cntQ n ks := by
  rw [← oll_len hv, ← oll_len (revK_vb hv), (oll_rev hv).length_eq, List.length_map]
theorem acy_rev (hv : VB n ks) (ha : Acy n ks) : Acy n (revK ks) := (cnt_pos_iff (revK_vb hv)).1 (by rw [cnt_rev hv]; exact cnt_acy hv ha)
theorem rnk_rev (hv : VB n ks) {s i : Nat} (hs : s < n) (hi : i < n) : (rnkQ n (nxQ n ks) s).getD i 0 = (rnkQ n (nxQ n (revK ks)) s).getD (n - 1 - i) 0 := by
  rw [rnk_getD hv.2.1 hs hi, rnk_getD hv.2.1 hs (by omega), (oll_rev hv).countP_eq, List.countP_map]
  refine List.countP_congr fun o ho => ?_
  have hO := (oll_mem hv).1 ho
  simp only [Function.comp_apply, decide_eq_true_eq]
  rw [plc_rev hO.2.1 (isO_mem hO hs), hO.1]
  omega
def RvP (L M : List (List Nat)) : Prop := M.Perm (L.map List.reverse)
theorem rvp_prt {L M : List (List Nat)} (hf : Fit n L) (h : RvP L M) {x y : Nat} (hx : x < n) (hy : y < n) : RvP (prt L y x) (prt M x y) := by
  have h1 : (prt M x y).Perm (prt (L.map List.reverse) x y) := h.filter _
  have h2 : prt (L.map List.reverse) x y = (prt L y x).map List.reverse := by
    unfold prt
    rw [List.filter_map]
    congr 1
    refine List.filter_congr fun o ho => ?_
    have hP := hf.2 o ho
    simp only [Function.comp_apply, prtB]
    rw [plc_rev hP.2.1 (isP_mem hP hx), plc_rev hP.2.1 (isP_mem hP hy)]
    exact decide_eq_decide.2 (by omega)
  unfold RvP
  rw [← h2]; exact h1
theorem rvp_len {L M : List (List Nat)} (h : RvP L M) : M.length = L.length := by rw [h.length_eq, List.length_map]
theorem rvp_fit {L M : List (List Nat)} (hf : Fit n L) (h : RvP L M) : Fit n M := by
  refine ⟨h.nodup_iff.2 (map_nodup (fun x y e => by rw [← List.reverse_reverse x, e, List.reverse_reverse]) hf.1), fun o ho => ?_⟩
  obtain ⟨q, hq, rfl⟩ := List.mem_map.1 (h.mem_iff.1 ho)
  exact isP_rev (hf.2 q hq)
theorem mnF_congr {D E : List (List Nat) → Nat} {L M : List (List Nat)} {i : Nat} (ps : List (Nat × Nat)) (ho : ∀ p ∈ ps, opn M p = opn L p) (hv : ∀ p ∈ ps, opn L p = true → vlD E M p = vlD D L p) : mnF E M i ps = mnF D L i ps :=
  fold_congr ps i fun p hp b => by
    unfold mnS
    rw [ho p hp]
    by_cases h : opn L p = true
    · rw [if_pos h, if_pos h, hv p hp h]
    · rw [if_neg h, if_neg h]
theorem dp_rev (hn : n ≤ 4) : ∀ (k : Nat) (L M : List (List Nat)), L.length ≤ k → L.length ≤ 24 → Fit n L → RvP L M → dpQ n M = dpQ n L
  | 0, L, M, hk, h24, hf, h => by rw [dpQ_0 (L := M) (by rw [rvp_len h]; omega), dpQ_0 (by omega)]
  | k + 1, L, M, hk, h24, hf, h => by
    by_cases h1 : 1 < L.length
    · have hl := rvp_len h
      have hm := rvp_fit hf h
      rw [(dp_main hn L.length L (Nat.le_refl _) h24 hf).2 h1, (dp_main hn M.length M (Nat.le_refl _) (by omega) hm).2 (by omega)]
      have hlen : ∀ p ∈ prQ n, (prt M p.1 p.2).length = (prt L p.2 p.1).length ∧ (prt M p.2 p.1).length = (prt L p.1 p.2).length := fun p hp => by
        have hin := prQ_in hp
        exact ⟨rvp_len (rvp_prt hf h (by omega) hin.2), rvp_len (rvp_prt hf h hin.2 (by omega))⟩
      refine mnF_congr _ (fun p hp => ?_) fun p hp ho => ?_
      · unfold opn; rw [(hlen p hp).1, (hlen p hp).2, Bool.and_comm]
      · have hin := prQ_in hp
        have hs := prt_sum (fun o ho => hf.2 o ho) (show p.1 < n by omega) (show p.1 ≠ p.2 by omega)
        have h2 := opn_T.1 ho
        unfold vlD
        rw [dp_rev hn k (prt L p.2 p.1) (prt M p.1 p.2) (by omega) (by omega) (fit_prt hf) (rvp_prt hf h (by omega) hin.2), dp_rev hn k (prt L p.1 p.2) (prt M p.2 p.1) (by omega) (by omega) (fit_prt hf) (rvp_prt hf h hin.2 (by omega)), Nat.max_comm]
    · rw [dpQ_0 (L := M) (by rw [rvp_len h]; omega), dpQ_0 (by omega)]
theorem dep_rev (hv : VB n ks) (hn : n ≤ 4) : depQ n (revK ks) = depQ n ks := by
  have h24 : (ords n ks).length ≤ 24 := by
    rw [ords_len hv]
    have := cntQ_le hv
    have h2 : cntQ n ks ≤ fac n := by
      have := up_le (n := n) (nx := nxB (briQ n ks)) (cntN n (full n)) (full n) full_lt rfl
      rw [full_cnt] at this; exact this
    have h3 : fac n ≤ fac 4 := fac_mono hn
    have h4 : fac 4 = 24 := by decide
    omega
  refine dp_rev hn _ (ords n ks) (ords n (revK ks)) (Nat.le_refl _) h24 (ords_fit hv) ?_
  exact rev_perm ords_nodup ords_nodup fun o => by rw [ords_mem hv, ords_mem (revK_vb hv), isO_rev_iff hv]
end
end Go.Proofs.Ythmibifghihdaaa
end

section
namespace Go.Proofs.Ythmibifghihdaaa
set_option maxRecDepth 20000
open Go.AE
theorem turned_a (b : Bk) (c : Option Nat) (hO : Pure Try.prog 47 [bookA b c] (.bool false)) (star : Nat) (hu1 : star < 256) : Pure Try.prog 14 [bookA b c, .int .u8 (star : Nat)] (.bool true) := by
  refine pure_of_body Try.func14 (c := body Try.f14) rfl (by simp [Try.ntmps14]) fun w0 Φ0 => ?_
  refine W_seq rfl ?_
  refine W_reg rfl ?_
  refine Rv rfl rfl rfl (U_boxF rfl rfl rfl) rfl rfl ?_
  refine Rv rfl rfl rfl (U_assign rfl) rfl rfl ?_
  refine Re rfl ?_
  refine thenQ_n ?_
  refine W_seq rfl ?_
  refine W_seq rfl ?_
  refine W_reg rfl ?_
  refine Rv rfl rfl rfl (U_load2 rfl rfl rfl rfl) rfl rfl ?_
  refine Rv rfl rfl rfl (U_call rfl rfl (hO) rfl) rfl rfl ?_
  refine Rv rfl rfl rfl (U_not rfl) rfl rfl ?_
  refine Re rfl ?_
  refine thenQ_n ?_
  refine Wcond rfl rfl (fun _ => ?_) (fun h => nomatch h)
  refine W_seq rfl ?_
  refine W_reg rfl ?_
  refine Rv rfl rfl rfl (U_call rfl rfl (works_p) rfl) rfl rfl ?_
  refine Rv rfl rfl rfl (U_assign rfl) rfl rfl ?_
  refine Re rfl ?_
  refine thenQ_n ?_
  refine W_ret rfl ?_
  refine thenQ_r ?_
  exact retL (rlT rfl rl0) rfl rfl
theorem turned_d (n : Nat) (ks : List (Nat × Nat)) (c : Option Nat) (hv : VB n ks) (h40 : ks.length ≤ 40) (ha : Acy n ks) (hO : Pure Try.prog 47 [bknA n ks c] (.bool true)) (star : Nat) (hu1 : star < 256) (q l r : List Nat) (m : Nat) (d e : Int) (hql : q.length = n) (hll : l.length = n) (hrl : r.length = n) (hlr : ∀ i (h1 : i < l.length) (h2 : n - 1 - i < r.length), l[i] = r[n - 1 - i]) (h26 : Pure Try.prog 26 [bknA n ks c] (.tup [natsA q none, i64 0])) (h28 : Pure Try.prog 28 [bknA n ks c] (.tup [i64 (m : Nat), i64 0])) (h28x : Pure Try.prog 28 [bknA n (revK ks) none] (.tup [i64 (m : Nat), i64 0])) (h39 : Pure Try.prog 39 [bknA n ks c, i64 ((star % n) : Nat)] (.tup [natsA l none, i64 0])) (h39x : Pure Try.prog 39 [bknA n (revK ks) none, i64 ((star % n) : Nat)] (.tup [natsA r none, i64 0])) (h42 : Pure Try.prog 42 [bknA n ks c] (.tup [i64 d, i64 e])) (h42x : Pure Try.prog 42 [bknA n (revK ks) none] (.tup [i64 d, i64 e])) (h22 : Pure Try.prog 22 [bknA n (revK ks) none, natsA q.reverse none] (i64 0)) : Pure Try.prog 14 [bknA n ks c, .int .u8 (star : Nat)] (.bool true) := by
  have hv' := hv
  obtain ⟨hn1, hn, hkl, hk⟩ := hv'
  have hk2 := vb_lt hv
  have hs : star % n < n := Nat.mod_lt _ (by omega)
  refine pure_of_body Try.func14 (c := body Try.f14) rfl (by simp [Try.ntmps14]) fun w0 Φ0 => ?_
  refine W_seq rfl ?_
  refine W_reg rfl ?_
  refine Rv rfl rfl rfl (U_boxF rfl rfl rfl) rfl rfl ?_
  refine Rv rfl rfl rfl (U_assign rfl) rfl rfl ?_
  refine Re rfl ?_
  refine thenQ_n ?_
  refine W_seq rfl ?_
  refine W_seq rfl ?_
  refine W_reg rfl ?_
  refine Rv rfl rfl rfl (U_load2 rfl rfl rfl rfl) rfl rfl ?_
  refine Rv rfl rfl rfl (U_call rfl rfl (hO) rfl) rfl rfl ?_
  refine Rv rfl rfl rfl (U_not rfl) rfl rfl ?_
  refine Re rfl ?_
  refine thenQ_n ?_
  refine Wcond rfl rfl (fun h => nomatch h) (fun _ => ?_)
  refine W_skip rfl ?_
  refine thenQ_n ?_
  refine W_seq rfl ?_
  refine W_reg rfl ?_
  refine Rv rfl rfl rfl (U_fieldAddrR rfl) rfl rfl ?_
  refine Rv rfl rfl rfl (U_load1 rfl rfl rfl) rfl rfl ?_
  refine Rv rfl rfl rfl (U_build rfl rfl) rfl rfl ?_
  refine Ra rfl rfl rfl (U_alloc) rfl rfl rfl ?_
  refine Rn rfl rfl rfl (U_storeAll rfl rfl rfl rfl rfl rfl) rfl ?_
  refine Re rfl ?_
  refine thenQ_n ?_
  refine W_seq rfl ?_
  refine W_seq rfl ?_
  refine W_reg rfl ?_
  refine Rv rfl rfl rfl (U_assign rfl) rfl rfl ?_
  refine Re rfl ?_
  refine thenQ_n ?_
  refine W_block rfl ?_
  refine WweakH (b := 0) (cs' := [i64 ((n : Nat) : Int), .out 1 0 2]) rfl (leL_cons (le_refl _) (leL_cons le_nils_out (leL_refl _))) ?_
  refine LoopTo (T' := [(1, .int .u8 ((star : Nat) : Int)), (2, .rop [i64 ((n : Nat) : Int), .ros (ks.flatMap lkN) ks.length c] 0), (5, .ptr 0 0), (6, i64 ((0 : Nat) : Int))]) (H' := [(0, some (.cells [i64 ((n : Nat) : Int), .out 1 [].length 2] 24)), (1, outB ([].flatMap lkN) 65 [].length)]) (n := 2) rfl (fun mz_ qz_ => ∃ (i : Nat) (L : List (Nat × Nat)), i ≤ ks.length ∧ L = (revK ks).take i ∧ mz_ = ks.length - i ∧ qz_ = ⟨[(1, .int .u8 ((star : Nat) : Int)), (2, .rop [i64 ((n : Nat) : Int), .ros (ks.flatMap lkN) ks.length c] 0), (5, .ptr 0 0), (6, i64 ((i : Nat) : Int))], [(0, some (.cells [i64 ((n : Nat) : Int), .out 1 L.length 2] 24)), (1, outB (L.flatMap lkN) 65 L.length)], 2, []⟩) ⟨0, [], (by omega), rfl, rfl, rfl⟩ id ⟨eD rfl rfl, eD rfl rfl, e_ rfl rfl, eD rfl rfl, trivial⟩ ⟨r_ rfl rfl rfl, rO0 rfl, trivial⟩ rfl rfl rfl rfl (fun _ _ => rfl) ?_
  rintro _ _ ⟨i, L, hi0_0, hi0_1, rfl, rfl⟩
  have hLl : L.length = i := by rw [hi0_1, List.length_take, revK_len]; omega
  refine W_seq rfl ?_
  refine W_seq rfl ?_
  refine W_reg rfl ?_
  refine Rv rfl rfl rfl (U_move rfl) rfl rfl ?_
  refine Rv rfl rfl rfl (U_fieldAddrR rfl) rfl rfl ?_
  refine Rv rfl rfl rfl (U_load1 rfl rfl rfl) rfl rfl ?_
  refine Rv rfl rfl rfl (U_lenOf rfl len_ros) rfl rfl ?_
  refine Rv rfl rfl rfl (U_lss rfl rfl) rfl rfl ?_
  refine Re rfl ?_
  refine thenQ_n ?_
  refine WcondP rfl rfl (fun hc1 => ?_) (fun hc1 => ?_)
  · have hci : i < ks.length := by omega
    have hk3 := hk _ (List.getElem_mem hci)
    refine W_skip rfl ?_
    refine thenQ_n ?_
    refine W_seq rfl ?_
    refine W_block rfl ?_
    refine Wjoin ⟨[(1, .int .u8 ((star : Nat) : Int)), (2, .rop [i64 ((n : Nat) : Int), .ros (ks.flatMap lkN) ks.length c] 0), (5, .ptr 0 0), (6, i64 ((i : Nat) : Int))], [(0, some (.cells [i64 ((n : Nat) : Int), .out 2 ((L ++ [(ks[i].2, ks[i].1)]).length) 2] 24)), (2, outB ((L ++ [(ks[i].2, ks[i].1)]).flatMap lkN) 65 ((L ++ [(ks[i].2, ks[i].1)]).length))], 3, []⟩ ?_ ?_
    · rcases Nat.eq_zero_or_pos L.length with hz1 | hz1
      · refine Wdraw rfl (by kernel_rfl) (by kernel_rfl) ?_
        refine Dv rfl rfl rfl (U_fieldAddr rfl) rfl rfl ?_
        refine Dv rfl rfl rfl (U_load1 rfl rfl rfl) rfl rfl ?_
        refine Dv rfl rfl rfl (U_fieldAddrR rfl) rfl rfl ?_
        refine Dv rfl rfl rfl (U_load1 rfl rfl rfl) rfl rfl ?_
        refine Dv rfl rfl rfl (U_move rfl) rfl rfl ?_
        have hx2 : i < ks.length := by omega
        refine Dv rfl rfl rfl (U_indexR (j := i) rfl rfl rfl hx2) rfl rfl ?_
        refine Dv rfl rfl rfl (U_indexAR (j := 1) rfl rfl rfl (by decide)) rfl rfl ?_
        refine Dv rfl rfl rfl (U_load1 rfl rfl (lkH1 hx2)) rfl rfl ?_
        refine Dv rfl rfl rfl (U_fieldAddrR rfl) rfl rfl ?_
        refine Dv rfl rfl rfl (U_load1 rfl rfl rfl) rfl rfl ?_
        refine Dv rfl rfl rfl (U_move rfl) rfl rfl ?_
        refine Dv rfl rfl rfl (U_indexR (j := i) rfl rfl rfl hx2) rfl rfl ?_
        refine Dv rfl rfl rfl (U_indexAR (j := 0) rfl rfl rfl (by decide)) rfl rfl ?_
        refine Dv rfl rfl rfl (U_load1 rfl rfl (lkH0 hx2)) rfl rfl ?_
        refine Dv rfl rfl rfl (U_build rfl rfl) rfl rfl ?_
        refine Dv rfl rfl rfl (U_buildSliceF (by rfl) (by decide) rfl rfl rfl) rfl rfl ?_
        refine Da rfl rfl rfl (U_appO0 (b := 1) (cs := (L.flatMap lkN)) (m := 0) (cs' := (L ++ [(ks[i].2, ks[i].1)]).flatMap lkN) (n' := (L ++ [(ks[i].2, ks[i].1)]).length) rfl hz1 rfl (by simp) (flat_len (z := 2) (fun _ => rfl) _) rfl (by omega) (lkApp _ _ _) (len1 _ _)) rfl rfl rfl rfl ?_
        refine Dv rfl rfl rfl (U_fieldAddr rfl) rfl rfl ?_
        refine Dn_ rfl rfl rfl (U_store rfl rfl rfl rfl rfl (Nat.le_of_ble_eq_true rfl) rfl rfl) rfl rfl ?_
        refine Dr.nil rfl ?_
        exact joinTo id ⟨eD rfl rfl, eD rfl rfl, e_ rfl rfl, eD rfl rfl, trivial⟩ ⟨r_ rfl rfl rfl, rO (flatD (fun _ => rfl) _) rfl rfl, trivial⟩ rfl rfl rfl rfl (fun _ _ => rfl)
      · refine Wdraw rfl (by kernel_rfl) (by kernel_rfl) ?_
        refine Dv rfl rfl rfl (U_fieldAddr rfl) rfl rfl ?_
        refine Dv rfl rfl rfl (U_load1 rfl rfl rfl) rfl rfl ?_
        refine Dv rfl rfl rfl (U_fieldAddrR rfl) rfl rfl ?_
        refine Dv rfl rfl rfl (U_load1 rfl rfl rfl) rfl rfl ?_
        refine Dv rfl rfl rfl (U_move rfl) rfl rfl ?_
        have hx3 : i < ks.length := by omega
        refine Dv rfl rfl rfl (U_indexR (j := i) rfl rfl rfl hx3) rfl rfl ?_
        refine Dv rfl rfl rfl (U_indexAR (j := 1) rfl rfl rfl (by decide)) rfl rfl ?_
        refine Dv rfl rfl rfl (U_load1 rfl rfl (lkH1 hx3)) rfl rfl ?_
        refine Dv rfl rfl rfl (U_fieldAddrR rfl) rfl rfl ?_
        refine Dv rfl rfl rfl (U_load1 rfl rfl rfl) rfl rfl ?_
        refine Dv rfl rfl rfl (U_move rfl) rfl rfl ?_
        refine Dv rfl rfl rfl (U_indexR (j := i) rfl rfl rfl hx3) rfl rfl ?_
        refine Dv rfl rfl rfl (U_indexAR (j := 0) rfl rfl rfl (by decide)) rfl rfl ?_
        refine Dv rfl rfl rfl (U_load1 rfl rfl (lkH0 hx3)) rfl rfl ?_
        refine Dv rfl rfl rfl (U_build rfl rfl) rfl rfl ?_
        refine Dv rfl rfl rfl (U_buildSliceF (by rfl) (by decide) rfl rfl rfl) rfl rfl ?_
        refine Da rfl rfl rfl (U_appO (b := 1) (m := 0) (cs' := (L ++ [(ks[i].2, ks[i].1)]).flatMap lkN) (n' := (L ++ [(ks[i].2, ks[i].1)]).length) rfl rfl (by simp) rfl (flat_len (z := 2) (fun _ => rfl) _) rfl rfl (by omega) (lkApp _ _ _) (len1 _ _)) rfl rfl rfl (upsO rfl hz1) ?_
        refine Dv rfl rfl rfl (U_fieldAddr rfl) rfl rfl ?_
        refine Dn_ rfl rfl rfl (U_store rfl rfl rfl rfl rfl (Nat.le_of_ble_eq_true rfl) rfl rfl) rfl rfl ?_
        refine Dr.nil rfl ?_
        exact joinTo id ⟨eD rfl rfl, eD rfl rfl, e_ rfl rfl, eD rfl rfl, trivial⟩ ⟨r_ rfl rfl rfl, rO (flatD (fun _ => rfl) _) rfl rfl, trivial⟩ rfl rfl rfl rfl (fun _ _ => rfl)
    refine blkQ_n ?_
    refine thenQ_n ?_
    refine W_reg rfl ?_
    refine Rv rfl rfl rfl (U_move rfl) rfl rfl ?_
    refine Rv rfl rfl rfl (U_add rfl rfl (w64e (m := ((i + 1 : Nat) : Int)) (by omega) (by omega) (by omega))) rfl rfl ?_
    refine Rv rfl rfl rfl (U_assign rfl) rfl rfl ?_
    refine Re rfl ?_
    refine thenQ_n ?_
    exact againTo (T' := [(1, .int .u8 ((star : Nat) : Int)), (2, .rop [i64 ((n : Nat) : Int), .ros (ks.flatMap lkN) ks.length c] 0), (5, .ptr 0 0), (6, i64 (((i + 1) : Nat) : Int))]) (H' := [(0, some (.cells [i64 ((n : Nat) : Int), .out 1 (L ++ [(ks[i].2, ks[i].1)]).length 2] 24)), (1, outB ((L ++ [(ks[i].2, ks[i].1)]).flatMap lkN) 65 (L ++ [(ks[i].2, ks[i].1)]).length)]) (n := 2) (ks.length - (i + 1)) ⟨i + 1, L ++ [(ks[i].2, ks[i].1)], (by omega), (by rw [revK_S hci, ← hi0_1]), rfl, rfl⟩ (by omega) (mapN [0, 2]) ⟨eD rfl rfl, eD rfl rfl, e_ rfl rfl, eD rfl rfl, trivial⟩ ⟨r_ rfl rfl rfl, rO (flatD (fun _ => rfl) _) rfl rfl, trivial⟩ rfl rfl rfl rfl (fun _ h => absurd h (Nat.not_lt_zero _))
  · have hLL : L = revK ks := by rw [hi0_1, List.take_of_length_le (by rw [revK_len]; omega)]
    refine W_exit rfl ?_
    refine thenQ_x ?_
    refine thenQ_x ?_
    refine blkQ_x rfl ?_
    refine thenQ_n ?_
    refine W_seq rfl ?_
    refine WfrO 1 (L.flatMap lkN) rfl (flatD (fun _ => rfl) _) (T' := [(1, .int .u8 ((star : Nat) : Int)), (2, .rop [i64 ((n : Nat) : Int), .ros (ks.flatMap lkN) ks.length c] 0), (5, .ptr 0 0)]) (H' := [(0, some (.cells [i64 ((n : Nat) : Int), .ros (L.flatMap lkN) L.length none] 24))]) ⟨fD rfl rfl, fD rfl rfl, fS rfl rfl, trivial⟩ ⟨⟨rfl, .cells (.cons (.same rfl) (.cons .out .nil))⟩, trivial⟩ ?_
    refine W_reg rfl ?_
    refine Rv rfl rfl rfl (U_move rfl) rfl rfl ?_
    refine Rv rfl rfl rfl (U_convInt (by rfl) rfl (wr_i64 (by omega) (by omega))) rfl rfl ?_
    refine Rv rfl rfl rfl (U_fieldAddrR rfl) rfl rfl ?_
    refine Rv rfl rfl rfl (U_load1 rfl rfl rfl) rfl rfl ?_
    refine Rv rfl rfl rfl (U_rem (c := ((star % n : Nat) : Int)) rfl rfl (by omega) (tmodN _ _)) rfl rfl ?_
    refine Rv rfl rfl rfl (U_assign rfl) rfl rfl ?_
    refine Re rfl ?_
    refine thenQ_n ?_
    refine W_seq rfl ?_
    refine W_reg rfl ?_
    refine Rv rfl rfl rfl (U_load2 rfl rfl rfl rfl) rfl rfl ?_
    refine Rv rfl rfl rfl (U_call rfl rfl (h26) rfl) rfl rfl ?_
    refine Rv rfl rfl rfl (U_move rfl) rfl rfl ?_
    refine Rv rfl rfl rfl (U_extract rfl rfl) rfl rfl ?_
    refine Rv rfl rfl rfl (U_extract rfl rfl) rfl rfl ?_
    refine Rv rfl rfl rfl (U_assign rfl) rfl rfl ?_
    refine Rv rfl rfl rfl (U_assign rfl) rfl rfl ?_
    refine Re rfl ?_
    refine thenQ_n ?_
    refine W_seq rfl ?_
    refine W_reg rfl ?_
    refine Rv rfl rfl rfl (U_load2 rfl rfl rfl rfl) rfl rfl ?_
    refine Rv rfl rfl rfl (U_call rfl rfl (h28) rfl) rfl rfl ?_
    refine Rv rfl rfl rfl (U_move rfl) rfl rfl ?_
    refine Rv rfl rfl rfl (U_extract rfl rfl) rfl rfl ?_
    refine Rv rfl rfl rfl (U_extract rfl rfl) rfl rfl ?_
    refine Rv rfl rfl rfl (U_assign rfl) rfl rfl ?_
    refine Rv rfl rfl rfl (U_assign rfl) rfl rfl ?_
    refine Re rfl ?_
    refine thenQ_n ?_
    refine W_seq rfl ?_
    refine W_reg rfl ?_
    refine Rv rfl rfl rfl (U_load2 rfl rfl rfl rfl) rfl rfl ?_
    refine Rv rfl rfl rfl (U_call rfl rfl (by rw [hLL]; exact h28x) rfl) rfl rfl ?_
    refine Rv rfl rfl rfl (U_move rfl) rfl rfl ?_
    refine Rv rfl rfl rfl (U_extract rfl rfl) rfl rfl ?_
    refine Rv rfl rfl rfl (U_extract rfl rfl) rfl rfl ?_
    refine Rv rfl rfl rfl (U_assign rfl) rfl rfl ?_
    refine Rv rfl rfl rfl (U_assign rfl) rfl rfl ?_
    refine Re rfl ?_
    refine thenQ_n ?_
    refine W_seq rfl ?_
    refine W_reg rfl ?_
    refine Rv rfl rfl rfl (U_load2 rfl rfl rfl rfl) rfl rfl ?_
    refine Rv rfl rfl rfl (U_move rfl) rfl rfl ?_
    refine Rv rfl rfl rfl (U_call rfl rfl (h39) rfl) rfl rfl ?_
    refine Rv rfl rfl rfl (U_move rfl) rfl rfl ?_
    refine Rv rfl rfl rfl (U_extract rfl rfl) rfl rfl ?_
    refine Rv rfl rfl rfl (U_extract rfl rfl) rfl rfl ?_
    refine Rv rfl rfl rfl (U_assign rfl) rfl rfl ?_
    refine Rv rfl rfl rfl (U_assign rfl) rfl rfl ?_
    refine Re rfl ?_
    refine thenQ_n ?_
    refine W_seq rfl ?_
    refine W_reg rfl ?_
    refine Rv rfl rfl rfl (U_load2 rfl rfl rfl rfl) rfl rfl ?_
    refine Rv rfl rfl rfl (U_move rfl) rfl rfl ?_
    refine Rv rfl rfl rfl (U_call rfl rfl (by rw [hLL]; exact h39x) rfl) rfl rfl ?_
    refine Rv rfl rfl rfl (U_move rfl) rfl rfl ?_
    refine Rv rfl rfl rfl (U_extract rfl rfl) rfl rfl ?_
    refine Rv rfl rfl rfl (U_extract rfl rfl) rfl rfl ?_
    refine Rv rfl rfl rfl (U_assign rfl) rfl rfl ?_
    refine Rv rfl rfl rfl (U_assign rfl) rfl rfl ?_
    refine Re rfl ?_
    refine thenQ_n ?_
    refine W_seq rfl ?_
    refine W_reg rfl ?_
    refine Rv rfl rfl rfl (U_load2 rfl rfl rfl rfl) rfl rfl ?_
    refine Rv rfl rfl rfl (U_call rfl rfl (h42) rfl) rfl rfl ?_
    refine Rv rfl rfl rfl (U_move rfl) rfl rfl ?_
    refine Rv rfl rfl rfl (U_extract rfl rfl) rfl rfl ?_
    refine Rv rfl rfl rfl (U_extract rfl rfl) rfl rfl ?_
    refine Rv rfl rfl rfl (U_assign rfl) rfl rfl ?_
    refine Rv rfl rfl rfl (U_assign rfl) rfl rfl ?_
    refine Re rfl ?_
    refine thenQ_n ?_
    refine W_seq rfl ?_
    refine W_reg rfl ?_
    refine Rv rfl rfl rfl (U_load2 rfl rfl rfl rfl) rfl rfl ?_
    refine Rv rfl rfl rfl (U_call rfl rfl (by rw [hLL]; exact h42x) rfl) rfl rfl ?_
    refine Rv rfl rfl rfl (U_move rfl) rfl rfl ?_
    refine Rv rfl rfl rfl (U_extract rfl rfl) rfl rfl ?_
    refine Rv rfl rfl rfl (U_extract rfl rfl) rfl rfl ?_
    refine Rv rfl rfl rfl (U_assign rfl) rfl rfl ?_
    refine Rv rfl rfl rfl (U_assign rfl) rfl rfl ?_
    refine Re rfl ?_
    refine thenQ_n ?_
    refine W_seq rfl ?_
    refine W_seq rfl ?_
    refine W_reg rfl ?_
    refine Rv rfl rfl rfl (U_move rfl) rfl rfl ?_
    refine Rv rfl rfl rfl (U_neq rfl rfl) rfl rfl ?_
    refine Rv rfl rfl rfl (U_move rfl) rfl rfl ?_
    refine Rv rfl rfl rfl (U_move rfl) rfl rfl ?_
    refine Rv rfl rfl rfl (U_neq rfl rfl) rfl rfl ?_
    refine Rv rfl rfl rfl (U_pick_f rfl rfl) rfl rfl ?_
    refine Rv rfl rfl rfl (U_move rfl) rfl rfl ?_
    refine Rv rfl rfl rfl (U_move rfl) rfl rfl ?_
    refine Rv rfl rfl rfl (U_neq rfl rfl) rfl rfl ?_
    refine Rv rfl rfl rfl (U_pick_f rfl rfl) rfl rfl ?_
    refine Rv rfl rfl rfl (U_move rfl) rfl rfl ?_
    refine Rv rfl rfl rfl (U_move rfl) rfl rfl ?_
    refine Rv rfl rfl rfl (U_neq rfl rfl) rfl rfl ?_
    refine Rv rfl rfl rfl (U_pick_f rfl rfl) rfl rfl ?_
    refine Rv rfl rfl rfl (U_move rfl) rfl rfl ?_
    refine Rv rfl rfl rfl (U_move rfl) rfl rfl ?_
    refine Rv rfl rfl rfl (U_neq rfl rfl) rfl rfl ?_
    refine Rv rfl rfl rfl (U_pick_f rfl rfl) rfl rfl ?_
    refine Rv rfl rfl rfl (U_move rfl) rfl rfl ?_
    refine Rv rfl rfl rfl (U_move rfl) rfl rfl ?_
    refine Rv rfl rfl rfl (U_move rfl) rfl rfl ?_
    refine Rv rfl rfl rfl (U_neqS rfl rfl) rfl rfl ?_
    refine Rv rfl rfl rfl (U_pick_f rfl rfl) rfl rfl ?_
    refine Rv rfl rfl rfl (U_move rfl) rfl rfl ?_
    refine Rv rfl rfl rfl (U_move rfl) rfl rfl ?_
    refine Rv rfl rfl rfl (U_move rfl) rfl rfl ?_
    refine Rv rfl rfl rfl (U_neqS rfl rfl) rfl rfl ?_
    refine Rv rfl rfl rfl (U_pick_f rfl rfl) rfl rfl ?_
    refine Rv rfl rfl rfl (U_move rfl) rfl rfl ?_
    refine Rv rfl rfl rfl (U_move rfl) rfl rfl ?_
    refine Rv rfl rfl rfl (U_move rfl) rfl rfl ?_
    refine Rv rfl rfl rfl (U_neqS rfl rfl) rfl rfl ?_
    refine Rv rfl rfl rfl (U_pick_f rfl rfl) rfl rfl ?_
    refine Rv rfl rfl rfl (U_move rfl) rfl rfl ?_
    refine Rv rfl rfl rfl (U_move rfl) rfl rfl ?_
    refine Rv rfl rfl rfl (U_lenOf rfl len_ros) rfl rfl ?_
    refine Rv rfl rfl rfl (U_fieldAddrR rfl) rfl rfl ?_
    refine Rv rfl rfl rfl (U_load1 rfl rfl rfl) rfl rfl ?_
    refine Rv rfl rfl rfl (OpU.toB (U_neq rfl rfl) (decide_eq_false (by omega))) rfl rfl ?_
    refine Rv rfl rfl rfl (U_pick_f rfl rfl) rfl rfl ?_
    refine Rv rfl rfl rfl (U_move rfl) rfl rfl ?_
    refine Rv rfl rfl rfl (U_move rfl) rfl rfl ?_
    refine Rv rfl rfl rfl (U_lenOf rfl len_ros) rfl rfl ?_
    refine Rv rfl rfl rfl (U_fieldAddrR rfl) rfl rfl ?_
    refine Rv rfl rfl rfl (U_load1 rfl rfl rfl) rfl rfl ?_
    refine Rv rfl rfl rfl (OpU.toB (U_neq rfl rfl) (decide_eq_false (by omega))) rfl rfl ?_
    refine Rv rfl rfl rfl (U_pick_f rfl rfl) rfl rfl ?_
    refine Rv rfl rfl rfl (U_move rfl) rfl rfl ?_
    refine Rv rfl rfl rfl (U_move rfl) rfl rfl ?_
    refine Rv rfl rfl rfl (U_lenOf rfl len_ros) rfl rfl ?_
    refine Rv rfl rfl rfl (U_fieldAddrR rfl) rfl rfl ?_
    refine Rv rfl rfl rfl (U_load1 rfl rfl rfl) rfl rfl ?_
    refine Rv rfl rfl rfl (OpU.toB (U_neq rfl rfl) (decide_eq_false (by omega))) rfl rfl ?_
    refine Rv rfl rfl rfl (U_pick_f rfl rfl) rfl rfl ?_
    refine Re rfl ?_
    refine thenQ_n ?_
    refine Wcond rfl rfl (fun h => nomatch h) (fun _ => ?_)
    refine W_skip rfl ?_
    refine thenQ_n ?_
    refine W_seq rfl ?_
    refine W_reg rfl ?_
    refine Rv rfl rfl rfl (U_assign rfl) rfl rfl ?_
    refine Re rfl ?_
    refine thenQ_n ?_
    refine W_seq rfl ?_
    refine W_seq rfl ?_
    refine W_reg rfl ?_
    refine Rv rfl rfl rfl (U_assign rfl) rfl rfl ?_
    refine Re rfl ?_
    refine thenQ_n ?_
    refine W_block rfl ?_
    refine LoopTo (T' := [(2, .rop [i64 ((n : Nat) : Int), .ros (ks.flatMap lkN) ks.length c] 0), (5, .ptr 0 0), (8, .ros (q.map n64) q.length none), (14, .ros (l.map n64) l.length none), (16, .ros (r.map n64) r.length none), (22, .out 2 [].length 1), (23, i64 ((0 : Nat) : Int))]) (H' := [(0, some (.cells [i64 ((n : Nat) : Int), .ros (L.flatMap lkN) L.length none] 24)), (2, outB ([].map n64) 3 [].length)]) (n := 3) rfl (fun mz_ qz_ => ∃ (i : Nat) (E : List Nat), i ≤ n ∧ E = q.reverse.take i ∧ mz_ = n - i ∧ qz_ = ⟨[(2, .rop [i64 ((n : Nat) : Int), .ros (ks.flatMap lkN) ks.length c] 0), (5, .ptr 0 0), (8, .ros (q.map n64) q.length none), (14, .ros (l.map n64) l.length none), (16, .ros (r.map n64) r.length none), (22, .out 2 E.length 1), (23, i64 ((i : Nat) : Int))], [(0, some (.cells [i64 ((n : Nat) : Int), .ros (L.flatMap lkN) L.length none] 24)), (2, outB (E.map n64) 3 E.length)], 3, []⟩) ⟨0, [], (by omega), rfl, rfl, rfl⟩ id ⟨eD rfl rfl, e_ rfl rfl, eD rfl rfl, eD rfl rfl, eD rfl rfl, eW rfl le_nils_out rfl, eD rfl rfl, trivial⟩ ⟨rD rfl rfl rfl, rO0 rfl, trivial⟩ rfl rfl rfl rfl (fun _ _ => rfl) ?_
    rintro _ _ ⟨i, E, hi1_0, hi1_1, rfl, rfl⟩
    have hEl : E.length = i := by rw [hi1_1, List.length_take, List.length_reverse]; omega
    refine W_seq rfl ?_
    refine W_seq rfl ?_
    refine W_reg rfl ?_
    refine Rv rfl rfl rfl (U_move rfl) rfl rfl ?_
    refine Rv rfl rfl rfl (U_fieldAddrR rfl) rfl rfl ?_
    refine Rv rfl rfl rfl (U_load1 rfl rfl rfl) rfl rfl ?_
    refine Rv rfl rfl rfl (U_lss rfl rfl) rfl rfl ?_
    refine Re rfl ?_
    refine thenQ_n ?_
    refine WcondP rfl rfl (fun hc3 => ?_) (fun hc3 => ?_)
    · have hin : i < n := by omega
      refine W_skip rfl ?_
      refine thenQ_n ?_
      refine W_seq rfl ?_
      refine W_block rfl ?_
      refine W_seq rfl ?_
      refine W_reg rfl ?_
      refine Rv rfl rfl rfl (U_move rfl) rfl rfl ?_
      refine Rv rfl rfl rfl (U_move rfl) rfl rfl ?_
      refine Rv rfl rfl rfl (U_fieldAddrR rfl) rfl rfl ?_
      refine Rv rfl rfl rfl (U_load1 rfl rfl rfl) rfl rfl ?_
      refine Rv rfl rfl rfl (U_sub rfl rfl (w64 (by omega) (by omega))) rfl rfl ?_
      refine Rv rfl rfl rfl (U_move rfl) rfl rfl ?_
      refine Rv rfl rfl rfl (U_sub rfl rfl (w64e (m := ((n - 1 - i : Nat) : Int)) (by omega) (by omega) (by omega))) rfl rfl ?_
      have hx4 : (n - 1 - i) < q.length := by omega
      refine Rv rfl rfl rfl (U_indexR (j := (n - 1 - i)) rfl rfl rfl hx4) rfl rfl ?_
      refine Rv rfl rfl rfl (U_load1 rfl rfl (getM hx4)) rfl rfl ?_
      refine Rv rfl rfl rfl (U_buildSliceF (by rfl) (by decide) rfl rfl rfl) rfl rfl ?_
      refine Ra rfl rfl rfl (U_appO (b := 2) (m := 0) (cs' := (E ++ [q[(n - 1 - i)]]).map n64) (n' := (E ++ [q[(n - 1 - i)]]).length) rfl rfl (by simp) rfl (map_len1 _) rfl rfl (by omega) (appM _ _) (len1 _ _)) rfl rfl rfl ?_
      refine Rv rfl rfl rfl (U_assign rfl) rfl rfl ?_
      refine Re rfl ?_
      refine thenQ_n ?_
      refine W_seq rfl ?_
      refine Wdraw rfl (by kernel_rfl) (by kernel_rfl) ?_
      refine Dv rfl rfl rfl (U_move rfl) rfl rfl ?_
      refine Dv rfl rfl rfl (U_move rfl) rfl rfl ?_
      have hx5 : i < l.length := by omega
      refine Dv rfl rfl rfl (U_indexR (j := i) rfl rfl rfl hx5) rfl rfl ?_
      refine Dv rfl rfl rfl (U_load1 rfl rfl (getM hx5)) rfl rfl ?_
      refine Dv rfl rfl rfl (U_move rfl) rfl rfl ?_
      refine Dv rfl rfl rfl (U_fieldAddrR rfl) rfl rfl ?_
      refine Dv rfl rfl rfl (U_load1 rfl rfl rfl) rfl rfl ?_
      refine Dv rfl rfl rfl (U_sub rfl rfl (w64 (by omega) (by omega))) rfl rfl ?_
      refine Dv rfl rfl rfl (U_move rfl) rfl rfl ?_
      refine Dv rfl rfl rfl (U_sub rfl rfl (w64e (m := ((n - 1 - i : Nat) : Int)) (by omega) (by omega) (by omega))) rfl rfl ?_
      have hx6 : (n - 1 - i) < r.length := by omega
      refine Dv rfl rfl rfl (U_indexR (j := (n - 1 - i)) rfl rfl rfl hx6) rfl rfl ?_
      refine Dv rfl rfl rfl (U_load1 rfl rfl (getM hx6)) rfl rfl ?_
      refine Dv rfl rfl rfl (OpU.toB (U_neq rfl rfl) (decide_eq_false (by have := hlr i (by omega) (by omega); omega))) rfl rfl ?_
      refine Dr.nil rfl ?_
      refine thenQ_n ?_
      refine Wcond rfl rfl (fun h => nomatch h) (fun _ => ?_)
      refine W_skip rfl ?_
      refine blkQ_n ?_
      refine thenQ_n ?_
      refine W_reg rfl ?_
      refine Rv rfl rfl rfl (U_move rfl) rfl rfl ?_
      refine Rv rfl rfl rfl (U_add rfl rfl (w64e (m := ((i + 1 : Nat) : Int)) (by omega) (by omega) (by omega))) rfl rfl ?_
      refine Rv rfl rfl rfl (U_assign rfl) rfl rfl ?_
      refine Re rfl ?_
      refine thenQ_n ?_
      exact againTo (T' := [(2, .rop [i64 ((n : Nat) : Int), .ros (ks.flatMap lkN) ks.length c] 0), (5, .ptr 0 0), (8, .ros (q.map n64) q.length none), (14, .ros (l.map n64) l.length none), (16, .ros (r.map n64) r.length none), (22, .out 2 (E ++ [q[(n - 1 - i)]]).length 1), (23, i64 (((i + 1) : Nat) : Int))]) (H' := [(0, some (.cells [i64 ((n : Nat) : Int), .ros (L.flatMap lkN) L.length none] 24)), (2, outB ((E ++ [q[(n - 1 - i)]]).map n64) 3 (E ++ [q[(n - 1 - i)]]).length)]) (n := 3) (n - (i + 1)) ⟨i + 1, E ++ [q[(n - 1 - i)]], (by omega), (by rw [List.take_succ_eq_append_getElem (by rw [List.length_reverse]; omega), List.getElem_reverse, ← hi1_1]; congr 3; omega), rfl, rfl⟩ (by omega) (mapN [0, 1, 3]) ⟨eD rfl rfl, e_ rfl rfl, eD rfl rfl, eD rfl rfl, eD rfl rfl, e_ rfl rfl, eD rfl rfl, trivial⟩ ⟨rD rfl rfl rfl, rO (mapD (fun _ => rfl) _) rfl rfl, trivial⟩ rfl rfl rfl rfl (fun _ h => absurd h (Nat.not_lt_zero _))
    · have hEE : E = q.reverse := by rw [hi1_1, List.take_of_length_le (by rw [List.length_reverse]; omega)]
      refine W_exit rfl ?_
      refine thenQ_x ?_
      refine thenQ_x ?_
      refine blkQ_x rfl ?_
      refine thenQ_n ?_
      refine W_seq rfl ?_
      refine WfrO 2 (E.map n64) rfl (mapD (fun _ => rfl) _) (T' := [(5, .ptr 0 0), (22, .ros (E.map n64) E.length none)]) (H' := [(0, some (.cells [i64 ((n : Nat) : Int), .ros (L.flatMap lkN) L.length none] 24))]) ⟨fS rfl rfl, fO rfl, trivial⟩ ⟨⟨rfl, .cells (.cons (.same rfl) (.cons (.same rfl) .nil))⟩, trivial⟩ ?_
      refine W_reg rfl ?_
      refine Rv rfl rfl rfl (U_load2 rfl rfl rfl rfl) rfl rfl ?_
      refine Rv rfl rfl rfl (U_move rfl) rfl rfl ?_
      refine Rv rfl rfl rfl (U_call rfl rfl (by rw [hLL, hEE]; exact h22) rfl) rfl rfl ?_
      refine Rv rfl rfl rfl (U_eql rfl rfl) rfl rfl ?_
      refine Rv rfl rfl rfl (U_move rfl) rfl rfl ?_
      refine Rv rfl rfl rfl (U_call rfl rfl (works_p) rfl) rfl rfl ?_
      refine Rv rfl rfl rfl (U_pick_t rfl rfl) rfl rfl ?_
      refine Rv rfl rfl rfl (U_assign rfl) rfl rfl ?_
      refine Re rfl ?_
      refine thenQ_n ?_
      refine W_ret rfl ?_
      exact retL (rlT rfl rl0) rfl rfl
theorem rankTurned_p (b : Bk) (c : Option Nat) (star : Nat) (hu1 : star < 256) : Pure Try.prog 14 [bookA b c, .int .u8 (star : Nat)] (.bool true) := by
  cases hf : fneB b with
  | false => exact turned_a b c (ordered_F b c hf) star hu1
  | true =>
    have h1 := fine_T b c hf
    obtain ⟨n, ks, rfl, hv, h40⟩ := chkB_ok (fne_ok hf)
    rcases acy_or n ks with ha | ⟨g, hg⟩
    · rw [bk_eq] at h1 ⊢
      have hO := ordered_A n ks c hv h1 ha
      have hn := hv.2.1
      have hs : star % n < n := Nat.mod_lt _ (by have := hv.1; omega)
      have hv2 := revK_vb hv
      have h42 : (revK ks).length ≤ 40 := by rw [revK_len]; exact h40
      have ha2 := acy_rev hv ha
      have hG := ordG_is hv ha
      have hR := isO_rev hv hG
      have h22 := checkOrder_n n (revK ks) none hv2 h42 (ordG n ks).reverse none (by have := hR.1; omega) hR.2.2.1 hR.1
      rw [(chkON_0 hv2 hR.2.2.1 hR.1).2 hR] at h22
      have h28x := cntA_p n (revK ks) none hv2 h42 ha2
      rw [cnt_rev hv] at h28x
      obtain ⟨d, e, hd1, hd2⟩ : ∃ d e : Int, Pure Try.prog 42 [bknA n ks c] (.tup [i64 d, i64 e]) ∧ Pure Try.prog 42 [bknA n (revK ks) none] (.tup [i64 d, i64 e]) := by
        by_cases h4 : n ≤ 4
        · refine ⟨(depQ n ks : Nat), 0, depth_g n ks c hv h40 ha h4, ?_⟩
          have := depth_g n (revK ks) none hv2 h42 ha2 h4
          rwa [dep_rev hv h4] at this
        · exact ⟨0, 4, depth_o n ks c hv h40 ha h4, depth_o n (revK ks) none hv2 h42 ha2 h4⟩
      refine turned_d n ks c hv h40 ha hO star hu1 (ordG n ks) _ _ (cntQ n ks) d e hG.1 rnk_len rnk_len (fun i h1 h2 => ?_) (order_g n ks c hv h40 ha) (cntA_p n ks c hv h40 ha) h28x (ranksQ_p n ks c hv h40 ha _ hs) (ranksQ_p n (revK ks) none hv2 h42 ha2 _ hs) hd1 hd2 h22
      have := rnk_rev hv hs (show i < n by rwa [rnk_len] at h1)
      rwa [getD_eq h1, getD_eq h2] at this
    · refine turned_a _ c ?_ star hu1
      rw [bk_eq] at h1 ⊢
      exact ordered_Y n ks c hv h1 g hg
end Go.Proofs.Ythmibifghihdaaa
end
