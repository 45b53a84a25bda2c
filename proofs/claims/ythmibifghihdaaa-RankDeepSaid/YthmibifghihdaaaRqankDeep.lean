import Derived.IntWalk
import Derived.ChangeKeysEq
import Derived.WideKeyRuns
import Derived.WalkSpells
import Derived.Test.YthmibifghihdaaaM5
set_option linter.all false
section
namespace Go.AE
open Go.RowKit
section ops
variable {C : Ctx} {T : AT} {H : AH} {nx : Nat} {d : Option Tmp} {ty : TypeId} {pos : String} {after : Array Edge} {g : Option (Nat × Bool)}
end ops
section steps
variable {C : Ctx} {T : AT} {H : AH} {nx : Nat} {df : List Nat} {ops : Array Oper} {i : Nat} {K : St → Prop} {o : Oper} {v : AV} {ups : AH} {nx' t : Nat} {c : Bool}
end steps
section dsteps
variable {al : Nat × ABlk} {C : Ctx} {kl : Oper → Nat} {ops : List Oper} {ms : List Nat} {H0 : AH} {K : AT → AH → Nat → Prop} {i : Nat} {T : AT} {D : List (Nat × AH)} {nx nx' t : Nat} {o : Oper} {v : AV} {ups : AH} {c : Bool}
end dsteps
section codes
variable {C : Ctx} {c : Code} {Q : Exit → St → Prop} {T : AT} {H : AH} {nx : Nat} {df : List Nat}
theorem WdrawL (l : List Nat) (h : c.tag = 2) (hm : C.P.follows .mixedOrders = true) (hck : chk (light l) c.ops.toList (masks c.ops.toList) = true)
    (k : Dr (al := al0) C (light l) c.ops.toList (masks c.ops.toList) H (fun T H nx => Q .normal ⟨T, H, nx, df⟩) 0 T [] nx) : WpA C c Q ⟨T, H, nx, df⟩ := W_draw h hm hck k
end codes
section ops
variable {C : Ctx} {T : AT} {H : AH} {nx : Nat} {d : Option Tmp} {ty : TypeId} {pos : String} {after : Array Edge} {g : Option (Nat × Bool)}
end ops
end Go.AE
end

section
namespace Go.AE
open Go.RowKit
section
variable {P : Program}
end
section ops
variable {C : Ctx} {T : AT} {H : AH} {nx : Nat} {d : Option Tmp} {ty : TypeId} {pos : String} {after : Array Edge} {g : Option (Nat × Bool)}
theorem U_neqB {t t' : TypeId} {x y : Operand} {a b : Bool} [hT : TyBool C.P t] (hx : ev T x = some (.bool a)) (hy : ev T y = some (.bool b)) : OpU C ⟨d, .binOp .neq t x y t', ty, pos, after, g⟩ T H nx (.bool (decide (a ≠ b))) [] nx :=
  OpU.of_value (by intro c; simp) fun ρ Φ ac w h2 _ => ⟨.bool (decide (a ≠ b)), by
    simp [execOp, con_bool (ev_con h2 hx), con_bool (ev_con h2 hy), eqGuard, binOp, Op.equal, Op.maxDepth, run_equalIn_bool w 9999 t a b hT.un]
    cases a <;> cases b <;> rfl, mk_bool⟩
end ops
section
variable {P : Program} {w0 : World} {Φ0 : Fz} {nt : Nat} {T : AT} {H : AH} {nx : Nat}
end
end Go.AE
end

section
namespace Go.AE
open Go.RowKit
section ops
variable {C : Ctx} {T : AT} {H : AH} {nx : Nat} {d : Option Tmp} {ty : TypeId} {pos : String} {after : Array Edge} {g : Option (Nat × Bool)}
end ops
section
variable {C : Ctx} {c : Code} {Q : Exit → St → Prop} {T T' : AT} {H H' : AH} {nx n : Nat} {df : List Nat}
end
section
variable {C : Ctx} {c : Code} {Q : Exit → St → Prop} {T T' : AT} {H H' : AH} {nx : Nat} {df : List Nat} {b n z : Nat} {cs : List AV} {t : TypeId}
theorem fS {b n z i : Nat} {cs : List AV} {v : AV} {T : AT} (h : lk T i = some v) (hv : v.nob b = true) : ∃ u, lk T i = some u ∧ FrO b n z cs u v := ⟨v, h, .same hv⟩
end
end Go.AE
end

section
namespace Go.AE
open Go.RowKit
section
variable {P : Program} {T : AT} {H : AH} {nx : Nat}
end
section ops
variable {C : Ctx} {T : AT} {H : AH} {nx : Nat} {d : Option Tmp} {ty : TypeId} {pos : String} {after : Array Edge} {g : Option (Nat × Bool)}
end ops
theorem upsO {Hr : AH} {nx b n : Nat} {k : Option ABlk} {cs : List AV} {e : TypeId} (hg : gt Hr b = outB cs e n) (hn : 0 < n) : upsOk 2 Hr nx (nx + 1) [(nx, k), (b, none)] = true := by
  obtain ⟨m, rfl⟩ : ∃ m, n = m + 1 := ⟨n - 1, by omega⟩
  simp [upsOk, hg, outB]
end Go.AE
end

section
namespace Go.AE
open Go.RowKit
section
variable {C : Ctx} {T : AT} {H : AH} {nx : Nat} {d : Option Tmp} {ty : TypeId} {pos : String} {after : Array Edge} {g : Option (Nat × Bool)}
theorem len0_ros {cs : List AV} {n : Nat} {c : Option Nat} (hn : n = 0) : ∀ (ρ : Env) Φ w y, Con ρ Φ w (.ros cs n c) y → ∃ a k, y = .slice a 0 k := fun ρ Φ w y h => by
  obtain ⟨a, k, h1, _⟩ := lenk_ros ρ Φ w y h; subst hn; exact ⟨a, k, h1⟩
end
end Go.AE
end

section
namespace Go.AE
open Go.RowKit
section
variable {C : Ctx} {T : AT} {H : AH} {nx : Nat} {d : Option Tmp} {ty : TypeId} {pos : String} {after : Array Edge} {g : Option (Nat × Bool)}
theorem U_appL {sT xT e e' z n n' : Nat} {x y : Operand} {s v : AV} {news : List AV} [hT : TySl C.P sT e z] [hX : TySl C.P xT e' z] [hE : TyElem C.P e z] (hx : ev T x = some s) (hs : srcS z H s = some ([], 0)) (hc0 : capOf s = some 0) (hy : ev T y = some v) (h2 : srcS z H v = some (news, n)) (hn : 0 < n) (hlim : n ≤ 1000000) (hn' : n = n') :
    OpU C ⟨d, .call ⟨.builtin .append, #[x, y], #[sT, xT]⟩, ty, pos, after, g⟩ T H nx (.out nx n' z) [(nx, outB news e n')] (nx + 1) := by
  subst hn'
  cases n with
  | zero => cases hn
  | succ m =>
    have h := U_appendGrow (C := C) (T := T) (H := H) (nx := nx) (d := d) (ty := ty) (pos := pos) (after := after) (g := g) (sT := sT) (xT := xT) hx hy hs h2 hc0 (by omega) (by omega)
    rw [Nat.zero_add] at h
    exact OpU.weakV (fun _ _ _ _ h => con_outS.2 h) h
end
end Go.AE
end

section
namespace Go.Proofs.Ythmibifghihdaaa
set_option maxRecDepth 20000
open Go.AE
theorem chkB_ok {b : Bk} (h : chkB b = 0) : ∃ (n : Nat) (ks : List (Nat × Nat)), b = ⟨n, ks.map cP⟩ ∧ VB n ks ∧ ks.length ≤ 40 := by
  unfold chkB at h
  split at h
  · omega
  · rename_i h1
    split at h
    · omega
    · rename_i h2
      have h1' : (1 ≤ b.n ∧ b.n ≤ 10) ∧ b.ls.length ≤ 40 := by simp [inL1] at h1; omega
      have h2' : ∀ p ∈ b.ls, (0 ≤ p.1 ∧ p.1 < b.n) ∧ (0 ≤ p.2 ∧ p.2 < b.n) ∧ p.1 ≠ p.2 := by
        intro p hp
        have : strB b.n p = false := by
          cases e : strB b.n p with
          | false => rfl
          | true => exact absurd (List.any_eq_true.2 ⟨p, hp, e⟩) h2
        rw [strB_eq] at this; simp [staB] at this; omega
      refine ⟨b.n.toNat, b.ls.map fun p => (p.1.toNat, p.2.toNat), ?_, ⟨by omega, by omega, by simp; omega, fun p hp => ?_⟩, by simp; omega⟩
      · obtain ⟨n, ls⟩ := b
        simp only at h1' h2'
        have e1 : ((n.toNat : Nat) : Int) = n := by omega
        have e2 : (ls.map fun p => (p.1.toNat, p.2.toNat)).map cP = ls := by
          rw [List.map_map]
          refine (List.map_congr_left fun p hp => ?_).trans (List.map_id _)
          have := h2' p hp
          refine Prod.ext ?_ ?_ <;> simp [cP] <;> omega
        rw [e1, e2]
      · obtain ⟨q, hq, rfl⟩ := List.mem_map.1 hp
        have := h2' q hq
        refine ⟨?_, ?_, ?_⟩ <;> simp only <;> omega
end Go.Proofs.Ythmibifghihdaaa
end

section
namespace Go.Proofs.Ythmibifghihdaaa
set_option maxRecDepth 20000
open Go.AE
theorem bfL_S {n : Nat} {ks : List (Nat × Nat)} {k : Nat} (h : k < ks.length) : bfL n (ks.take (k + 1)) = (bfL n (ks.take k)).set ks[k].2 ((bfL n (ks.take k)).getD ks[k].2 0 ||| 1 <<< ks[k].1) := by
  unfold bfL; rw [List.take_succ_eq_append_getElem h, List.foldl_append]; rfl
theorem bf_ok : ∀ (ks : List (Nat × Nat)) (o : List Nat), (∀ x ∈ o, x < 1024) → (∀ p ∈ ks, p.1 < 10) → (ks.foldl (fun o p => o.set p.2 (o.getD p.2 0 ||| 1 <<< p.1)) o).length = o.length ∧ ∀ x ∈ ks.foldl (fun o p => o.set p.2 (o.getD p.2 0 ||| 1 <<< p.1)) o, x < 1024
  | [], o, h, _ => ⟨rfl, h⟩
  | p :: ks, o, h, hk => by
    have h1 : o.getD p.2 0 < 1024 := by
      by_cases e : p.2 < o.length
      · rw [getD_eq e]; exact h _ (List.getElem_mem _)
      · rw [List.getD_eq_getElem?_getD, List.getElem?_eq_none (by omega)]; decide
    have := bf_ok ks (o.set p.2 (o.getD p.2 0 ||| 1 <<< p.1)) (fun x hx => by
      rcases List.mem_or_eq_of_mem_set hx with hx | rfl
      · exact h x hx
      · exact or1024 h1 (shl1024 (hk p (by simp)))) fun q hq => hk q (by simp [hq])
    rw [List.length_set] at this
    exact this
section
variable {n : Nat} {ks : List (Nat × Nat)}
theorem bfL_len (hv : VB n ks) (k : Nat) : (bfL n (ks.take k)).length = n := by
  have := (bf_ok (ks.take k) (List.replicate n 0) (by simp) fun p hp => (vb10 hv p (List.mem_of_mem_take hp)).1).1
  simpa [bfL] using this
theorem bfL_lt (hv : VB n ks) (k : Nat) : ∀ x ∈ bfL n (ks.take k), x < 1024 := (bf_ok (ks.take k) (List.replicate n 0) (by simp) fun p hp => (vb10 hv p (List.mem_of_mem_take hp)).1).2
theorem bfL_len' (hv : VB n ks) : (bfL n ks).length = n := by have := bfL_len hv ks.length; rwa [List.take_length] at this
theorem bfL_lt' (hv : VB n ks) : ∀ x ∈ bfL n ks, x < 1024 := by have := bfL_lt hv ks.length; rwa [List.take_length] at this
end
section
variable {n : Nat} {nx : Nat → Nat → Bool}
def upK (n : Nat) (nx : Nat → Nat → Bool) (s k : Nat) : List Nat := (List.range (1 <<< n)).map fun j => Wp n nx s j + ((List.range k).map fun a => if (nx s a && decide (ad s a = j)) = true then up n nx s else 0).sum
theorem upK_len {s k : Nat} : (upK n nx s k).length = 1 <<< n := by simp [upK]
theorem upK_at {s k j : Nat} (h : j < (upK n nx s k).length) : (upK n nx s k)[j] = Wp n nx s j + ((List.range k).map fun a => if (nx s a && decide (ad s a = j)) = true then up n nx s else 0).sum := by simp [upK]
theorem upK_0 : (List.replicate (1 <<< n) 0).set 0 1 = upK n nx 0 0 := by
  refine List.ext_getElem (by simp [upK]) fun j h1 h2 => ?_
  rw [upK_at, List.getElem_set, Wp_0]
  by_cases e : j = 0
  · subst e; simp
  · simp [e, show ¬ 0 = j by omega]
theorem upK_all (hx : Nxt nx) {s : Nat} : upK n nx s n = upK n nx (s + 1) 0 := by
  refine List.ext_getElem (by simp [upK]) fun j h1 h2 => ?_
  rw [upK_at, upK_at, Wp_S hx]; simp
theorem upK_self (hx : Nxt nx) {s k : Nat} (hs : s < 2 ^ n) (h : s < (upK n nx s k).length) : (upK n nx s k)[s] = up n nx s := by
  rw [upK_at, Wp_end hs (Nat.le_refl _)]
  have : ((List.range k).map fun a => if (nx s a && decide (ad s a = s)) = true then up n nx s else 0) = (List.range k).map fun _ => 0 := List.map_congr_left fun a _ => by
    rw [if_neg]
    intro h
    simp only [Bool.and_eq_true, decide_eq_true_eq] at h
    have := ad_gt (hx _ _ h.1); omega
  rw [this]
  have e : ∀ (l : List Nat), (l.map fun _ => 0).sum = 0 := fun l => by induction l with | nil => rfl | cons x l ih => simpa using ih
  rw [e]; omega
theorem upK_T (hx : Nxt nx) {s k : Nat} (hs : s < 2 ^ n) (h : nx s k = true) {u v : Nat} (hi : ad s k < (upK n nx s k).length) (hu : u = (upK n nx s k)[ad s k]) (hv : v = up n nx s) : (upK n nx s k).set (ad s k) (u + v) = upK n nx s (k + 1) := by
  refine List.ext_getElem (by simp [upK]) fun j h1 h2 => ?_
  rw [List.getElem_set]
  split
  · rename_i e; subst e
    rw [hu, hv, upK_at, upK_at, List.range_succ, List.map_append, List.sum_append]; simp [h]; omega
  · rename_i e
    rw [upK_at, upK_at, List.range_succ, List.map_append, List.sum_append]; simp [e]
theorem upK_F {s k : Nat} (h : nx s k = false) : upK n nx s k = upK n nx s (k + 1) := by
  refine List.ext_getElem (by simp [upK]) fun j h1 h2 => ?_
  rw [upK_at, upK_at, List.range_succ, List.map_append, List.sum_append]; simp [h]
theorem upK_le (hn : n ≤ 10) (hx : Nxt nx) {s k j : Nat} (hk : k ≤ n) (hj : j < 2 ^ n) (h : j < (upK n nx s k).length) : (upK n nx s k)[j] ≤ 3628800 := by
  rw [upK_at]
  have h1 := Wp_mono (nx := nx) (s := s + 1) hj
  rw [Wp_S hx] at h1
  have h2 : ((List.range k).map fun a => if (nx s a && decide (ad s a = j)) = true then up n nx s else 0).sum ≤ ((List.range n).map fun a => if (nx s a && decide (ad s a = j)) = true then up n nx s else 0).sum := by
    obtain ⟨d, rfl⟩ : ∃ d, n = k + d := ⟨n - k, by omega⟩
    rw [List.range_add, List.map_append, List.sum_append]; omega
  exact Nat.le_trans (Nat.le_trans (Nat.add_le_add_left h2 _) h1) (up_lt hn hj)
theorem upK_end {j : Nat} (hj : j < 2 ^ n) (h : j < (upK n nx (1 <<< n) 0).length) : (upK n nx (1 <<< n) 0)[j] = up n nx j := by
  rw [upK_at, Wp_end hj (by rw [one_shl]; omega)]; simp
def enR (n : Nat) (nx : Nat → Nat → Bool) (m k : Nat) : Nat := if m = full n then 1 else enP n nx m ((List.range k).filter (nx m))
def enK (n : Nat) (nx : Nat → Nat → Bool) (m k : Nat) : List Nat := (enV n nx (m + 1)).set m (enR n nx m k)
theorem enK_len {m k : Nat} : (enK n nx m k).length = 1 <<< n := by simp [enK, enV_len]
theorem enK_0 {m : Nat} (hm : m < 2 ^ n) : enK n nx m 0 = enV n nx (min (m + 1) (full n)) := by
  refine List.ext_getElem (by simp [enK, enV_len]) fun j h1 h2 => ?_
  have hj : j < 2 ^ n := by rw [enK_len] at h1; rwa [← one_shl (n := n)]
  have hf : full n = 2 ^ n - 1 := rfl
  simp only [enK]
  rw [List.getElem_set]
  split
  · rename_i e; subst e
    rw [enV_at]
    unfold enR
    split
    · rename_i e2; rw [if_pos (by omega)]; conv => rhs; rw [e2]
      exact en_full.symm
    · rename_i e2; rw [if_neg (by omega)]; rfl
  · rename_i e
    rw [enV_at, enV_at]
    by_cases h3 : m + 1 ≤ j
    · rw [if_pos h3, if_pos (by omega)]
    · rw [if_neg h3, if_neg (by omega)]
theorem enR_all (hx : Nxt nx) {m : Nat} (hm : m < 2 ^ n) : enR n nx m n = en n nx m := by
  unfold enR
  split
  · rename_i e; subst e; exact en_full.symm
  · rename_i e
    rw [enP, sum_filter, en_eq hx hm e]
theorem enK_all (hx : Nxt nx) {m : Nat} (hm : m < 2 ^ n) : enK n nx m n = enV n nx (min m (full n)) := by
  rw [enK, enR_all hx hm, enV_set]
  have : full n = 2 ^ n - 1 := rfl
  rw [Nat.min_eq_left (by omega)]
theorem enR_T {m k : Nat} (hne : m ≠ full n) (h : nx m k = true) : enR n nx m (k + 1) = enR n nx m k + en n nx (ad m k) := by
  unfold enR
  rw [if_neg hne, if_neg hne, List.range_succ, List.filter_append]
  simp [enP, h]
theorem enR_F {m k : Nat} (h : nx m k = false) : enR n nx m (k + 1) = enR n nx m k := by
  unfold enR
  rw [List.range_succ, List.filter_append]
  simp [h]
theorem enK_T {m k : Nat} (hne : m ≠ full n) (h : nx m k = true) {u v : Nat} (hu : u = enR n nx m k) (hv : v = en n nx (ad m k)) : (enK n nx m k).set m (u + v) = enK n nx m (k + 1) := by
  rw [hu, hv, ← enR_T hne h, enK, enK, List.set_set]
theorem enK_F {m k : Nat} (h : nx m k = false) : enK n nx m k = enK n nx m (k + 1) := by rw [enK, enK, enR_F h]
theorem enR_le (hn : n ≤ 10) (hx : Nxt nx) {m k : Nat} (hm : m < 2 ^ n) (hk : k ≤ n) : enR n nx m k ≤ 3628800 := by
  have h1 := en_lt hx hn hm
  rw [← enR_all hx hm] at h1
  have h2 : enR n nx m k ≤ enR n nx m n := by
    unfold enR
    split
    · exact Nat.le_refl _
    · obtain ⟨d, rfl⟩ : ∃ d, n = k + d := ⟨n - k, by omega⟩
      rw [List.range_add, List.filter_append, enP, enP, List.map_append, List.sum_append]; omega
  omega
theorem enK_at1 {m k : Nat} (h : m < (enK n nx m k).length) : (enK n nx m k)[m] = enR n nx m k := by simp [enK]
theorem enK_at2 {m k j : Nat} (h : m < j) (hj : j < (enK n nx m k).length) : (enK n nx m k)[j] = en n nx j := by
  simp only [enK]
  rw [List.getElem_set_ne (by omega), enV_at, if_pos (by omega)]
theorem nx_full (hx : Nxt nx) {k : Nat} (hk : k < n) : nx (full n) k = false := by
  cases e : nx (full n) k with
  | false => rfl
  | true => have := hx _ _ e; rw [full_tb] at this; simp at this; omega
end
end Go.Proofs.Ythmibifghihdaaa
end

section
namespace Go.Proofs.Ythmibifghihdaaa
set_option maxRecDepth 20000
open Go.AE
theorem before_p (n : Nat) (ks : List (Nat × Nat)) (c : Option Nat) (hv : VB n ks) : Pure Try.prog 66 [bknA n ks c] (.ros ((bfL n ks).map n64) n none) := by
  have hv' := hv
  obtain ⟨hn1, hn, hkl, hk⟩ := hv'
  have h1024 := shl_le hn
  have h2n := shl_ge hn1
  refine pure_of_body Try.func66 (c := body Try.f66) rfl (by simp [Try.ntmps66]) fun w0 Φ0 => ?_
  refine W_seq rfl ?_
  refine W_reg rfl ?_
  refine Rv rfl rfl rfl (U_boxF rfl rfl rfl) rfl rfl ?_
  refine Rv rfl rfl rfl (U_assign rfl) rfl rfl ?_
  refine Re rfl ?_
  refine thenQ_n ?_
  refine W_seq rfl ?_
  refine W_reg rfl ?_
  refine Rv rfl rfl rfl (U_fieldAddrR rfl) rfl rfl ?_
  refine Rv rfl rfl rfl (U_load1 rfl rfl rfl) rfl rfl ?_
  refine Ra rfl rfl rfl (U_mkL (n := n) (cs' := (List.replicate n (0 : Nat)).map n64) rfl rfl rfl (by omega) (replM rfl _)) rfl rfl rfl ?_
  refine Rv rfl rfl rfl (U_assign rfl) rfl rfl ?_
  refine Re rfl ?_
  refine thenQ_n ?_
  refine W_seq rfl ?_
  refine W_seq rfl ?_
  refine W_reg rfl ?_
  refine Rv rfl rfl rfl (U_assign rfl) rfl rfl ?_
  refine Re rfl ?_
  refine thenQ_n ?_
  refine W_block rfl ?_
  refine LoopTo (T' := [(1, .rop [i64 ((n : Nat) : Int), .ros (ks.flatMap lkN) ks.length c] 0), (3, .slice 0 0 n n), (4, i64 ((0 : Nat) : Int))]) (H' := [(0, some (.cells ((bfL n (ks.take 0)).map n64) 3))]) (n := 1) rfl (fun mz_ qz_ => ∃ (k : Nat), k ≤ ks.length ∧ mz_ = ks.length - k ∧ qz_ = ⟨[(1, .rop [i64 ((n : Nat) : Int), .ros (ks.flatMap lkN) ks.length c] 0), (3, .slice 0 0 n n), (4, i64 ((k : Nat) : Int))], [(0, some (.cells ((bfL n (ks.take k)).map n64) 3))], 1, []⟩) ⟨0, (by omega), rfl, rfl⟩ id ⟨eD rfl rfl, e_ rfl rfl, eD rfl rfl, trivial⟩ ⟨rD (mapD (fun _ => rfl) _) rfl rfl, trivial⟩ rfl rfl rfl rfl (fun _ _ => rfl) ?_
  rintro _ _ ⟨k, hi0_0, rfl, rfl⟩
  refine W_seq rfl ?_
  refine W_seq rfl ?_
  refine W_reg rfl ?_
  refine Rv rfl rfl rfl (U_move rfl) rfl rfl ?_
  refine Rv rfl rfl rfl (U_fieldAddrR rfl) rfl rfl ?_
  refine Rv rfl rfl rfl (U_load1 rfl rfl rfl) rfl rfl ?_
  refine Rv rfl rfl rfl (U_lenOf rfl len_ros) rfl rfl ?_
  refine Rv rfl rfl rfl (U_lss rfl rfl) rfl rfl ?_
  refine Re rfl ?_
  refine thenQ_n ?_
  refine WcondP rfl rfl (fun hc0 => ?_) (fun hc0 => ?_)
  · have hck : k < ks.length := by omega
    have hkp := hk _ (List.getElem_mem hck)
    have hbl := bfL_len hv k
    have hbi : ks[k].2 < (bfL n (ks.take k)).length := by omega
    have hbx : (bfL n (ks.take k))[ks[k].2] < 1024 := bfL_lt hv k _ (List.getElem_mem _)
    refine W_skip rfl ?_
    refine thenQ_n ?_
    refine W_seq rfl ?_
    refine W_block rfl ?_
    refine Wdraw rfl (by kernel_rfl) (by kernel_rfl) ?_
    refine Dv rfl rfl rfl (U_move rfl) rfl rfl ?_
    refine Dv rfl rfl rfl (U_fieldAddrR rfl) rfl rfl ?_
    refine Dv rfl rfl rfl (U_load1 rfl rfl rfl) rfl rfl ?_
    refine Dv rfl rfl rfl (U_move rfl) rfl rfl ?_
    have hx1 : k < ks.length := by omega
    refine Dv rfl rfl rfl (U_indexR (j := k) rfl rfl rfl hx1) rfl rfl ?_
    refine Dv rfl rfl rfl (U_indexAR (j := 1) rfl rfl rfl (by decide)) rfl rfl ?_
    refine Dv rfl rfl rfl (U_load1 rfl rfl (lkH1 hx1)) rfl rfl ?_
    have hx2 : ks[k].2 < (bfL n (ks.take k)).length := by omega
    refine Dv rfl rfl rfl (U_indexS (j := ks[k].2) rfl rfl rfl (by omega)) rfl rfl ?_
    refine Dv rfl rfl rfl (U_load1 rfl rfl (getM0 hx2)) rfl rfl ?_
    refine Dv rfl rfl rfl (U_fieldAddrR rfl) rfl rfl ?_
    refine Dv rfl rfl rfl (U_load1 rfl rfl rfl) rfl rfl ?_
    refine Dv rfl rfl rfl (U_move rfl) rfl rfl ?_
    refine Dv rfl rfl rfl (U_indexR (j := k) rfl rfl rfl hx1) rfl rfl ?_
    refine Dv rfl rfl rfl (U_indexAR (j := 0) rfl rfl rfl (by decide)) rfl rfl ?_
    refine Dv rfl rfl rfl (U_load1 rfl rfl (lkH0 hx1)) rfl rfl ?_
    refine Dv rfl rfl rfl (U_shl rfl rfl (by omega) (shlN (n := 1) (i := ks[k].1) (shl63 (by omega)) (by omega))) rfl rfl ?_
    refine Dv rfl rfl rfl (U_or rfl rfl (orN (a := (bfL n (ks.take k))[ks[k].2]) (b := 1 <<< ks[k].1) (lt63 hbx) (lt63 (shl1024 (by omega))))) rfl rfl ?_
    refine Dv rfl rfl rfl (U_indexS (j := ks[k].2) rfl rfl rfl (by omega)) rfl rfl ?_
    refine Dn_ rfl rfl rfl (U_store (n := 1) (cs' := ((bfL n (ks.take k)).set ks[k].2 (((bfL n (ks.take k))[ks[k].2]) ||| (1 <<< ks[k].1))).map n64) rfl rfl rfl rfl rfl (stLt hx2) rfl setM) rfl rfl ?_
    refine Dr.nil rfl ?_
    refine blkQ_n ?_
    refine thenQ_n ?_
    refine W_reg rfl ?_
    refine Rv rfl rfl rfl (U_move rfl) rfl rfl ?_
    refine Rv rfl rfl rfl (U_add rfl rfl (w64e (m := ((k + 1 : Nat) : Int)) (by omega) (by omega) (by omega))) rfl rfl ?_
    refine Rv rfl rfl rfl (U_assign rfl) rfl rfl ?_
    refine Re rfl ?_
    refine thenQ_n ?_
    rw [← getD_eq (d := 0) hbi]
    rw [← bfL_S hck]
    exact againTo (T' := [(1, .rop [i64 ((n : Nat) : Int), .ros (ks.flatMap lkN) ks.length c] 0), (3, .slice 0 0 n n), (4, i64 (((k + 1) : Nat) : Int))]) (H' := [(0, some (.cells ((bfL n (ks.take (k + 1))).map n64) 3))]) (n := 1) (ks.length - (k + 1)) ⟨k + 1, (by omega), rfl, rfl⟩ (by omega) id ⟨eD rfl rfl, e_ rfl rfl, eD rfl rfl, trivial⟩ ⟨rD (mapD (fun _ => rfl) _) rfl rfl, trivial⟩ rfl rfl rfl rfl (fun _ _ => rfl)
  · obtain rfl : k = ks.length := by omega
    rw [List.take_length]
    refine W_exit rfl ?_
    refine thenQ_x ?_
    refine thenQ_x ?_
    refine blkQ_x rfl ?_
    refine thenQ_n ?_
    refine W_seq rfl ?_
    refine W_reg rfl ?_
    refine Rv rfl rfl rfl (U_move rfl) rfl rfl ?_
    refine Rv rfl rfl rfl (U_assign rfl) rfl rfl ?_
    refine Re rfl ?_
    refine thenQ_n ?_
    refine WfrN 0 rfl (mapD (fun _ => rfl) _) (T' := [(2, .ros ((bfL n ks).map n64) n (some n))]) (H' := []) ⟨⟨_, rfl, fr_sl (Nat.le_refl _)⟩, trivial⟩ trivial ?_
    refine WweakT (j := 2) rfl le_cap ?_
    refine W_ret rfl ?_
    exact retL (rlT rfl rl0) rfl rfl
end Go.Proofs.Ythmibifghihdaaa
end

section
namespace Go.Proofs.Ythmibifghihdaaa
set_option maxRecDepth 20000
open Go.AE
theorem ways_p (n : Nat) (ks : List (Nat × Nat)) (c : Option Nat) (hv : VB n ks) : Pure Try.prog 67 [bknA n ks c] (.tup [.ros ((upK n (nxQ n ks) (1 <<< n) 0).map n64) (1 <<< n) none, .ros ((enV n (nxQ n ks) 0).map n64) (1 <<< n) none]) := by
  have hv' := hv
  obtain ⟨hn1, hn, hkl, hk⟩ := hv'
  have h1024 := shl_le hn
  have h2n := shl_ge hn1
  have hx : Nxt (nxQ n ks) := nxR_nxt (bfN n ks)
  have hbl := bfL_len' hv
  have hmin : 1 <<< n - 1 = min (1 <<< n) (full n) := by rw [full_shl]; omega
  refine pure_of_body Try.func67 (c := body Try.f67) rfl (by simp [Try.ntmps67]) fun w0 Φ0 => ?_
  refine W_seq rfl ?_
  refine W_reg rfl ?_
  refine Rv rfl rfl rfl (U_boxF rfl rfl rfl) rfl rfl ?_
  refine Rv rfl rfl rfl (U_assign rfl) rfl rfl ?_
  refine Rv rfl rfl rfl (U_assign rfl) rfl rfl ?_
  refine Re rfl ?_
  refine thenQ_n ?_
  refine W_seq rfl ?_
  refine W_reg rfl ?_
  refine Rv rfl rfl rfl (U_load2 rfl rfl rfl rfl) rfl rfl ?_
  refine Rv rfl rfl rfl (U_call rfl rfl (before_p n ks c hv) rfl) rfl rfl ?_
  refine Rv rfl rfl rfl (U_assign rfl) rfl rfl ?_
  refine Re rfl ?_
  refine thenQ_n ?_
  refine W_seq rfl ?_
  refine W_reg rfl ?_
  refine Rv rfl rfl rfl (U_fieldAddrR rfl) rfl rfl ?_
  refine Rv rfl rfl rfl (U_load1 rfl rfl rfl) rfl rfl ?_
  refine Rv rfl rfl rfl (U_shl rfl rfl (by omega) (shlN (n := 1) (i := n) (shl63' hn) (by omega))) rfl rfl ?_
  refine Rv rfl rfl rfl (U_assign rfl) rfl rfl ?_
  refine Re rfl ?_
  refine thenQ_n ?_
  refine W_seq rfl ?_
  refine Wdraw rfl (by kernel_rfl) (by kernel_rfl) ?_
  refine Dv rfl rfl rfl (U_move rfl) rfl rfl ?_
  refine Da rfl rfl rfl (U_mkL (n := 1 <<< n) (cs' := (List.replicate (1 <<< n) (0 : Nat)).map n64) rfl rfl rfl (by omega) (replM rfl _)) rfl rfl rfl rfl ?_
  refine Dv rfl rfl rfl (U_move rfl) rfl rfl ?_
  refine Da rfl rfl rfl (U_mkL (n := 1 <<< n) (cs' := (List.replicate (1 <<< n) (0 : Nat)).map n64) rfl rfl rfl (by omega) (replM rfl _)) rfl rfl rfl rfl ?_
  refine Dv rfl rfl rfl (U_assign rfl) rfl rfl ?_
  refine Dv rfl rfl rfl (U_assign rfl) rfl rfl ?_
  refine Dr.nil rfl ?_
  refine thenQ_n ?_
  refine W_seq rfl ?_
  refine W_reg rfl ?_
  refine Rv rfl rfl rfl (U_move rfl) rfl rfl ?_
  refine Rv rfl rfl rfl (U_move rfl) rfl rfl ?_
  refine Rv rfl rfl rfl (U_move rfl) rfl rfl ?_
  refine Rv rfl rfl rfl (U_sub rfl rfl (w64e (m := ((1 <<< n - 1 : Nat) : Int)) (by omega) (by omega) (by omega))) rfl rfl ?_
  have hr0 : (List.replicate (1 <<< n) 0).length = 1 <<< n := List.length_replicate
  have hx1 : 0 < (List.replicate (1 <<< n) (0 : Nat)).length := by omega
  refine Rv rfl rfl rfl (U_indexS (j := 0) rfl rfl rfl (by omega)) rfl rfl ?_
  refine Rn rfl rfl rfl (U_store (n := 1) (cs' := ((List.replicate (1 <<< n) (0 : Nat)).set 0 1).map n64) rfl rfl rfl rfl rfl (stLt hx1) rfl setM) rfl ?_
  have hx2 : (1 <<< n - 1) < (List.replicate (1 <<< n) (0 : Nat)).length := by omega
  refine Rv rfl rfl rfl (U_indexS (j := (1 <<< n - 1)) rfl rfl rfl (by omega)) rfl rfl ?_
  refine Rn rfl rfl rfl (U_store (n := 1) (cs' := ((List.replicate (1 <<< n) (0 : Nat)).set (1 <<< n - 1) 1).map n64) rfl rfl rfl rfl rfl (stLt hx2) rfl setM) rfl ?_
  refine Re rfl ?_
  rw [upK_0 (n := n) (nx := (nxQ n ks)), enV_0 (n := n) (nx := (nxQ n ks)), hmin]
  refine thenQ_n ?_
  refine W_seq rfl ?_
  refine W_seq rfl ?_
  refine W_reg rfl ?_
  refine Rv rfl rfl rfl (U_assign rfl) rfl rfl ?_
  refine Re rfl ?_
  refine thenQ_n ?_
  refine W_block rfl ?_
  refine LoopTo (T' := [(1, .rop [i64 ((n : Nat) : Int), .ros (ks.flatMap lkN) ks.length c] 0), (4, .ros ((bfL n ks).map n64) n none), (5, i64 ((1 <<< n : Nat) : Int)), (6, .slice 0 0 (1 <<< n) (1 <<< n)), (7, .slice 1 0 (1 <<< n) (1 <<< n)), (8, i64 ((0 : Nat) : Int))]) (H' := [(0, some (.cells ((upK n (nxQ n ks) 0 0).map n64) 2)), (1, some (.cells ((enV n (nxQ n ks) (min (1 <<< n) (full n))).map n64) 2))]) (n := 2) rfl (fun mz_ qz_ => ∃ (s : Nat), s ≤ 1 <<< n ∧ mz_ = 1 <<< n - s ∧ qz_ = ⟨[(1, .rop [i64 ((n : Nat) : Int), .ros (ks.flatMap lkN) ks.length c] 0), (4, .ros ((bfL n ks).map n64) n none), (5, i64 ((1 <<< n : Nat) : Int)), (6, .slice 0 0 (1 <<< n) (1 <<< n)), (7, .slice 1 0 (1 <<< n) (1 <<< n)), (8, i64 ((s : Nat) : Int))], [(0, some (.cells ((upK n (nxQ n ks) s 0).map n64) 2)), (1, some (.cells ((enV n (nxQ n ks) (min (1 <<< n) (full n))).map n64) 2))], 2, []⟩) ⟨0, (Nat.zero_le _), rfl, rfl⟩ id ⟨eD rfl rfl, eD rfl rfl, eD rfl rfl, e_ rfl rfl, e_ rfl rfl, eD rfl rfl, trivial⟩ ⟨rD (mapD (fun _ => rfl) _) rfl rfl, rD (mapD (fun _ => rfl) _) rfl rfl, trivial⟩ rfl rfl rfl rfl (fun _ _ => rfl) ?_
  rintro _ _ ⟨s, hi0_0, rfl, rfl⟩
  refine W_seq rfl ?_
  refine W_seq rfl ?_
  refine W_reg rfl ?_
  refine Rv rfl rfl rfl (U_move rfl) rfl rfl ?_
  refine Rv rfl rfl rfl (U_move rfl) rfl rfl ?_
  refine Rv rfl rfl rfl (U_lss rfl rfl) rfl rfl ?_
  refine Re rfl ?_
  refine thenQ_n ?_
  refine WcondP rfl rfl (fun hc0 => ?_) (fun hc0 => ?_)
  · have hs : s < 2 ^ n := by rw [← one_shl (n := n)]; omega
    refine W_skip rfl ?_
    refine thenQ_n ?_
    refine W_seq rfl ?_
    refine W_block rfl ?_
    refine W_seq rfl ?_
    refine W_reg rfl ?_
    refine Rv rfl rfl rfl (U_assign rfl) rfl rfl ?_
    refine Re rfl ?_
    refine thenQ_n ?_
    refine W_block rfl ?_
    refine LoopTo (T' := [(1, .rop [i64 ((n : Nat) : Int), .ros (ks.flatMap lkN) ks.length c] 0), (4, .ros ((bfL n ks).map n64) n none), (5, i64 ((1 <<< n : Nat) : Int)), (6, .slice 0 0 (1 <<< n) (1 <<< n)), (7, .slice 1 0 (1 <<< n) (1 <<< n)), (8, i64 ((s : Nat) : Int)), (9, i64 ((0 : Nat) : Int))]) (H' := [(0, some (.cells ((upK n (nxQ n ks) s 0).map n64) 2)), (1, some (.cells ((enV n (nxQ n ks) (min (1 <<< n) (full n))).map n64) 2))]) (n := 2) rfl (fun mz_ qz_ => ∃ (k : Nat), k ≤ n ∧ mz_ = n - k ∧ qz_ = ⟨[(1, .rop [i64 ((n : Nat) : Int), .ros (ks.flatMap lkN) ks.length c] 0), (4, .ros ((bfL n ks).map n64) n none), (5, i64 ((1 <<< n : Nat) : Int)), (6, .slice 0 0 (1 <<< n) (1 <<< n)), (7, .slice 1 0 (1 <<< n) (1 <<< n)), (8, i64 ((s : Nat) : Int)), (9, i64 ((k : Nat) : Int))], [(0, some (.cells ((upK n (nxQ n ks) s k).map n64) 2)), (1, some (.cells ((enV n (nxQ n ks) (min (1 <<< n) (full n))).map n64) 2))], 2, []⟩) ⟨0, (by omega), rfl, rfl⟩ id ⟨eD rfl rfl, eD rfl rfl, eD rfl rfl, e_ rfl rfl, e_ rfl rfl, eD rfl rfl, eD rfl rfl, trivial⟩ ⟨rD (mapD (fun _ => rfl) _) rfl rfl, rD (mapD (fun _ => rfl) _) rfl rfl, trivial⟩ rfl rfl rfl rfl (fun _ _ => rfl) ?_
    rintro _ _ ⟨k, hi1_0, rfl, rfl⟩
    refine W_seq rfl ?_
    refine W_seq rfl ?_
    refine W_reg rfl ?_
    refine Rv rfl rfl rfl (U_move rfl) rfl rfl ?_
    refine Rv rfl rfl rfl (U_fieldAddrR rfl) rfl rfl ?_
    refine Rv rfl rfl rfl (U_load1 rfl rfl rfl) rfl rfl ?_
    refine Rv rfl rfl rfl (U_lss rfl rfl) rfl rfl ?_
    refine Re rfl ?_
    refine thenQ_n ?_
    refine WcondP rfl rfl (fun hc1 => ?_) (fun hc1 => ?_)
    · have hkn : k < n := by omega
      have hbi : k < (bfL n ks).length := by omega
      have hbk : bfN n ks k = (bfL n ks)[k] := getD_eq hbi
      have hbx : (bfL n ks)[k] < 1024 := bfL_lt' hv _ (List.getElem_mem _)
      have h10 : s < 1024 := by omega
      refine W_skip rfl ?_
      refine thenQ_n ?_
      refine W_seq rfl ?_
      refine W_block rfl ?_
      refine W_seq rfl ?_
      refine Wdraw rfl (by kernel_rfl) (by kernel_rfl) ?_
      refine Dv rfl rfl rfl (U_move rfl) rfl rfl ?_
      refine Dv rfl rfl rfl (U_move rfl) rfl rfl ?_
      refine Dv rfl rfl rfl (U_shr rfl rfl (by omega) (shrN (n := s) (i := k) (lt63 h10))) rfl rfl ?_
      refine Dv rfl rfl rfl (U_and rfl rfl (andN (a := s >>> k) (b := 1) (sh63 h10) (by omega))) rfl rfl ?_
      refine Dv rfl rfl rfl (U_eql rfl rfl) rfl rfl ?_
      refine Dv rfl rfl rfl (U_move rfl) rfl rfl ?_
      refine Dsplit (t := 43) rfl (fun hg3 => ?_) (fun hg3 => ?_)
      · rw [hg3]
        have hg3' : (((s >>> k) &&& 1 : Nat) : Int) = 0 := of_decide_eq_true hg3
        have hcg1 := hg3'
        refine Dv rfl rfl rfl (U_move rfl) rfl rfl ?_
        refine Dv rfl rfl rfl (U_move rfl) rfl rfl ?_
        have hx4 : k < (bfL n ks).length := by omega
        refine Dv rfl rfl rfl (U_indexR (j := k) rfl rfl rfl (by omega)) rfl rfl ?_
        refine Dv rfl rfl rfl (U_load1 rfl rfl (getM hx4)) rfl rfl ?_
        refine Dv rfl rfl rfl (U_move rfl) rfl rfl ?_
        refine Dv rfl rfl rfl (U_and rfl rfl (andN (a := (bfL n ks)[k]) (b := s) (lt63 hbx) (lt63 h10))) rfl rfl ?_
        refine Dv rfl rfl rfl (U_move rfl) rfl rfl ?_
        refine Dv rfl rfl rfl (U_move rfl) rfl rfl ?_
        refine Dv rfl rfl rfl (U_indexR (j := k) rfl rfl rfl (by omega)) rfl rfl ?_
        refine Dv rfl rfl rfl (U_load1 rfl rfl (getM hx4)) rfl rfl ?_
        refine Dv rfl rfl rfl (U_eql rfl rfl) rfl rfl ?_
        refine Dv rfl rfl rfl (U_pick_t rfl rfl) rfl rfl ?_
        refine Dr.nil rfl ?_
        refine thenQ_n ?_
        refine WcondP rfl rfl (fun hc2 => ?_) (fun hc2 => ?_)
        · have hnx : nxQ n ks s k = true := by show nxR (bfN n ks) s k = true; unfold nxR; rw [hbk, decide_eq_true hcg1, decide_eq_true hc2]; rfl
          have had : s ||| 1 <<< k < 2 ^ n := ad_lt hs hkn
          have hadl : s ||| 1 <<< k < (upK n (nxQ n ks) s k).length := by rw [upK_len, one_shl (n := n)]; exact had
          have hsl : s < (upK n (nxQ n ks) s k).length := by rw [upK_len, one_shl (n := n)]; exact hs
          have hb1 := upK_le hn hx (show k ≤ n by omega) had hadl
          have hvs : (upK n (nxQ n ks) s k)[s] = up n (nxQ n ks) s := upK_self hx hs hsl
          have hb2 : up n (nxQ n ks) s ≤ 3628800 := up_lt hn hs
          refine Wdraw rfl (by kernel_rfl) (by kernel_rfl) ?_
          refine Dv rfl rfl rfl (U_move rfl) rfl rfl ?_
          refine Dv rfl rfl rfl (U_move rfl) rfl rfl ?_
          refine Dv rfl rfl rfl (U_move rfl) rfl rfl ?_
          refine Dv rfl rfl rfl (U_shl rfl rfl (by omega) (shlN (n := 1) (i := k) (shl63 (by omega)) (by omega))) rfl rfl ?_
          refine Dv rfl rfl rfl (U_or rfl rfl (orN (a := s) (b := 1 <<< k) (lt63 h10) (lt63 (shl1024 (by omega))))) rfl rfl ?_
          have hx5 : (s ||| (1 <<< k)) < (upK n (nxQ n ks) s k).length := by omega
          refine Dv rfl rfl rfl (U_indexS (j := (s ||| (1 <<< k))) rfl rfl rfl (by omega)) rfl rfl ?_
          refine Dv rfl rfl rfl (U_load1 rfl rfl (getM0 hx5)) rfl rfl ?_
          refine Dv rfl rfl rfl (U_move rfl) rfl rfl ?_
          refine Dv rfl rfl rfl (U_move rfl) rfl rfl ?_
          have hx6 : s < (upK n (nxQ n ks) s k).length := by omega
          refine Dv rfl rfl rfl (U_indexS (j := s) rfl rfl rfl (by omega)) rfl rfl ?_
          refine Dv rfl rfl rfl (U_load1 rfl rfl (getM0 hx6)) rfl rfl ?_
          refine Dv rfl rfl rfl (U_add rfl rfl (w64e (m := ((((upK n (nxQ n ks) s k)[(s ||| (1 <<< k))]) + (upK n (nxQ n ks) s k)[s] : Nat) : Int)) (by omega) (by omega) (by omega))) rfl rfl ?_
          refine Dv rfl rfl rfl (U_indexS (j := (s ||| (1 <<< k))) rfl rfl rfl (by omega)) rfl rfl ?_
          refine Dn_ rfl rfl rfl (U_store (n := 1) (cs' := ((upK n (nxQ n ks) s k).set (s ||| (1 <<< k)) (((upK n (nxQ n ks) s k)[(s ||| (1 <<< k))]) + (upK n (nxQ n ks) s k)[s])).map n64) rfl rfl rfl rfl rfl (stLt hx5) rfl setM) rfl rfl ?_
          refine Dr.nil rfl ?_
          refine blkQ_n ?_
          refine thenQ_n ?_
          refine W_reg rfl ?_
          refine Rv rfl rfl rfl (U_move rfl) rfl rfl ?_
          refine Rv rfl rfl rfl (U_add rfl rfl (w64e (m := ((k + 1 : Nat) : Int)) (by omega) (by omega) (by omega))) rfl rfl ?_
          refine Rv rfl rfl rfl (U_assign rfl) rfl rfl ?_
          refine Re rfl ?_
          refine thenQ_n ?_
          first | rw [upK_T hx hs hnx hadl rfl hvs] | rw [upK_F hnx]
          exact againTo (T' := [(1, .rop [i64 ((n : Nat) : Int), .ros (ks.flatMap lkN) ks.length c] 0), (4, .ros ((bfL n ks).map n64) n none), (5, i64 ((1 <<< n : Nat) : Int)), (6, .slice 0 0 (1 <<< n) (1 <<< n)), (7, .slice 1 0 (1 <<< n) (1 <<< n)), (8, i64 ((s : Nat) : Int)), (9, i64 (((k + 1) : Nat) : Int))]) (H' := [(0, some (.cells ((upK n (nxQ n ks) s (k + 1)).map n64) 2)), (1, some (.cells ((enV n (nxQ n ks) (min (1 <<< n) (full n))).map n64) 2))]) (n := 2) (n - (k + 1)) ⟨k + 1, (by omega), rfl, rfl⟩ (by omega) id ⟨eD rfl rfl, eD rfl rfl, eD rfl rfl, e_ rfl rfl, e_ rfl rfl, eD rfl rfl, eD rfl rfl, trivial⟩ ⟨rD (mapD (fun _ => rfl) _) rfl rfl, rD (mapD (fun _ => rfl) _) rfl rfl, trivial⟩ rfl rfl rfl rfl (fun _ _ => rfl)
        · have hnx : nxQ n ks s k = false := by show nxR (bfN n ks) s k = false; unfold nxR; rw [hbk, decide_eq_true hcg1, decide_eq_false hc2]; rfl
          refine W_skip rfl ?_
          refine blkQ_n ?_
          refine thenQ_n ?_
          refine W_reg rfl ?_
          refine Rv rfl rfl rfl (U_move rfl) rfl rfl ?_
          refine Rv rfl rfl rfl (U_add rfl rfl (w64e (m := ((k + 1 : Nat) : Int)) (by omega) (by omega) (by omega))) rfl rfl ?_
          refine Rv rfl rfl rfl (U_assign rfl) rfl rfl ?_
          refine Re rfl ?_
          refine thenQ_n ?_
          first | rw [upK_T hx hs hnx hadl rfl hvs] | rw [upK_F hnx]
          exact againTo (T' := [(1, .rop [i64 ((n : Nat) : Int), .ros (ks.flatMap lkN) ks.length c] 0), (4, .ros ((bfL n ks).map n64) n none), (5, i64 ((1 <<< n : Nat) : Int)), (6, .slice 0 0 (1 <<< n) (1 <<< n)), (7, .slice 1 0 (1 <<< n) (1 <<< n)), (8, i64 ((s : Nat) : Int)), (9, i64 (((k + 1) : Nat) : Int))]) (H' := [(0, some (.cells ((upK n (nxQ n ks) s (k + 1)).map n64) 2)), (1, some (.cells ((enV n (nxQ n ks) (min (1 <<< n) (full n))).map n64) 2))]) (n := 2) (n - (k + 1)) ⟨k + 1, (by omega), rfl, rfl⟩ (by omega) id ⟨eD rfl rfl, eD rfl rfl, eD rfl rfl, e_ rfl rfl, e_ rfl rfl, eD rfl rfl, eD rfl rfl, trivial⟩ ⟨rD (mapD (fun _ => rfl) _) rfl rfl, rD (mapD (fun _ => rfl) _) rfl rfl, trivial⟩ rfl rfl rfl rfl (fun _ _ => rfl)
      · rw [hg3]
        have hg3' : ¬ ((((s >>> k) &&& 1 : Nat) : Int) = 0) := of_decide_eq_false hg3
        have hnx : nxQ n ks s k = false := by show nxR (bfN n ks) s k = false; unfold nxR; rw [decide_eq_false hg3']; rfl
        refine Ds rfl rfl rfl rfl rfl ?_
        refine Ds rfl rfl rfl rfl rfl ?_
        refine Ds rfl rfl rfl rfl rfl ?_
        refine Ds rfl rfl rfl rfl rfl ?_
        refine Ds rfl rfl rfl rfl rfl ?_
        refine Ds rfl rfl rfl rfl rfl ?_
        refine Ds rfl rfl rfl rfl rfl ?_
        refine Ds rfl rfl rfl rfl rfl ?_
        refine Ds rfl rfl rfl rfl rfl ?_
        refine Ds rfl rfl rfl rfl rfl ?_
        refine Ds rfl rfl rfl rfl rfl ?_
        refine Dv rfl rfl rfl (U_pick_f rfl rfl) rfl rfl ?_
        refine Dr.nil rfl ?_
        refine thenQ_n ?_
        refine Wcond rfl rfl (fun h => nomatch h) (fun _ => ?_)
        refine W_skip rfl ?_
        refine blkQ_n ?_
        refine thenQ_n ?_
        refine W_reg rfl ?_
        refine Rv rfl rfl rfl (U_move rfl) rfl rfl ?_
        refine Rv rfl rfl rfl (U_add rfl rfl (w64e (m := ((k + 1 : Nat) : Int)) (by omega) (by omega) (by omega))) rfl rfl ?_
        refine Rv rfl rfl rfl (U_assign rfl) rfl rfl ?_
        refine Re rfl ?_
        refine thenQ_n ?_
        first | rw [upK_T hx hs hnx hadl rfl hvs] | rw [upK_F hnx]
        exact againTo (T' := [(1, .rop [i64 ((n : Nat) : Int), .ros (ks.flatMap lkN) ks.length c] 0), (4, .ros ((bfL n ks).map n64) n none), (5, i64 ((1 <<< n : Nat) : Int)), (6, .slice 0 0 (1 <<< n) (1 <<< n)), (7, .slice 1 0 (1 <<< n) (1 <<< n)), (8, i64 ((s : Nat) : Int)), (9, i64 (((k + 1) : Nat) : Int))]) (H' := [(0, some (.cells ((upK n (nxQ n ks) s (k + 1)).map n64) 2)), (1, some (.cells ((enV n (nxQ n ks) (min (1 <<< n) (full n))).map n64) 2))]) (n := 2) (n - (k + 1)) ⟨k + 1, (by omega), rfl, rfl⟩ (by omega) id ⟨eD rfl rfl, eD rfl rfl, eD rfl rfl, e_ rfl rfl, e_ rfl rfl, eD rfl rfl, eD rfl rfl, trivial⟩ ⟨rD (mapD (fun _ => rfl) _) rfl rfl, rD (mapD (fun _ => rfl) _) rfl rfl, trivial⟩ rfl rfl rfl rfl (fun _ _ => rfl)
    · obtain rfl : n = k := by omega
      rw [upK_all hx]
      refine W_exit rfl ?_
      refine thenQ_x ?_
      refine thenQ_x ?_
      refine blkQ_x rfl ?_
      refine blkQ_n ?_
      refine thenQ_n ?_
      refine W_reg rfl ?_
      refine Rv rfl rfl rfl (U_move rfl) rfl rfl ?_
      refine Rv rfl rfl rfl (U_add rfl rfl (w64e (m := ((s + 1 : Nat) : Int)) (by omega) (by omega) (by omega))) rfl rfl ?_
      refine Rv rfl rfl rfl (U_assign rfl) rfl rfl ?_
      refine Re rfl ?_
      refine thenQ_n ?_
      exact againTo (T' := [(1, .rop [i64 ((n : Nat) : Int), .ros (ks.flatMap lkN) ks.length c] 0), (4, .ros ((bfL n ks).map n64) n none), (5, i64 ((1 <<< n : Nat) : Int)), (6, .slice 0 0 (1 <<< n) (1 <<< n)), (7, .slice 1 0 (1 <<< n) (1 <<< n)), (8, i64 (((s + 1) : Nat) : Int))]) (H' := [(0, some (.cells ((upK n (nxQ n ks) (s + 1) 0).map n64) 2)), (1, some (.cells ((enV n (nxQ n ks) (min (1 <<< n) (full n))).map n64) 2))]) (n := 2) (1 <<< n - (s + 1)) ⟨s + 1, (by omega), rfl, rfl⟩ (by omega) id ⟨eD rfl rfl, eD rfl rfl, eD rfl rfl, e_ rfl rfl, e_ rfl rfl, eD rfl rfl, trivial⟩ ⟨rD (mapD (fun _ => rfl) _) rfl rfl, rD (mapD (fun _ => rfl) _) rfl rfl, trivial⟩ rfl rfl rfl rfl (fun _ _ => rfl)
  · obtain rfl : s = 1 <<< n := by omega
    refine W_exit rfl ?_
    refine thenQ_x ?_
    refine thenQ_x ?_
    refine blkQ_x rfl ?_
    refine thenQ_n ?_
    refine W_seq rfl ?_
    refine W_seq rfl ?_
    refine W_reg rfl ?_
    refine Rv rfl rfl rfl (U_move rfl) rfl rfl ?_
    refine Rv rfl rfl rfl (U_sub rfl rfl (w64 (by omega) (by omega))) rfl rfl ?_
    refine Rv rfl rfl rfl (U_assign rfl) rfl rfl ?_
    refine Re rfl ?_
    refine thenQ_n ?_
    refine W_block rfl ?_
    refine LoopTo (T' := [(1, .rop [i64 ((n : Nat) : Int), .ros (ks.flatMap lkN) ks.length c] 0), (4, .ros ((bfL n ks).map n64) n none), (6, .slice 0 0 (1 <<< n) (1 <<< n)), (7, .slice 1 0 (1 <<< n) (1 <<< n)), (10, i64 ((((1 <<< n) : Nat) : Int) - 1))]) (H' := [(0, some (.cells ((upK n (nxQ n ks) (1 <<< n) 0).map n64) 2)), (1, some (.cells ((enV n (nxQ n ks) (min (1 <<< n) (full n))).map n64) 2))]) (n := 2) rfl (fun mz_ qz_ => ∃ (s : Nat), s ≤ 1 <<< n ∧ mz_ = 0 + s ∧ qz_ = ⟨[(1, .rop [i64 ((n : Nat) : Int), .ros (ks.flatMap lkN) ks.length c] 0), (4, .ros ((bfL n ks).map n64) n none), (6, .slice 0 0 (1 <<< n) (1 <<< n)), (7, .slice 1 0 (1 <<< n) (1 <<< n)), (10, i64 (((s : Nat) : Int) - 1))], [(0, some (.cells ((upK n (nxQ n ks) (1 <<< n) 0).map n64) 2)), (1, some (.cells ((enV n (nxQ n ks) (min s (full n))).map n64) 2))], 2, []⟩) ⟨1 <<< n, (Nat.le_refl _), rfl, rfl⟩ id ⟨eD rfl rfl, eD rfl rfl, e_ rfl rfl, e_ rfl rfl, eD rfl rfl, trivial⟩ ⟨rD (mapD (fun _ => rfl) _) rfl rfl, rD (mapD (fun _ => rfl) _) rfl rfl, trivial⟩ rfl rfl rfl rfl (fun _ _ => rfl) ?_
    rintro _ _ ⟨s, hi2_0, rfl, rfl⟩
    refine W_seq rfl ?_
    refine W_seq rfl ?_
    refine W_reg rfl ?_
    refine Rv rfl rfl rfl (U_move rfl) rfl rfl ?_
    refine Rv rfl rfl rfl (U_geq rfl rfl) rfl rfl ?_
    refine Re rfl ?_
    refine thenQ_n ?_
    refine WcondP rfl rfl (fun hc3 => ?_) (fun hc3 => ?_)
    · obtain ⟨m, rfl⟩ : ∃ m, s = m + 1 := ⟨s - 1, by omega⟩
      have hm1 : ((m + 1 : Nat) : Int) - 1 = ((m : Nat) : Int) := by omega
      rw [hm1]
      have hm : m < 2 ^ n := by rw [← one_shl (n := n)]; omega
      rw [← enK_0 (n := n) (nx := (nxQ n ks)) hm]
      refine W_skip rfl ?_
      refine thenQ_n ?_
      refine W_seq rfl ?_
      refine W_block rfl ?_
      refine W_seq rfl ?_
      refine W_reg rfl ?_
      refine Rv rfl rfl rfl (U_assign rfl) rfl rfl ?_
      refine Re rfl ?_
      refine thenQ_n ?_
      refine W_block rfl ?_
      refine LoopTo (T' := [(1, .rop [i64 ((n : Nat) : Int), .ros (ks.flatMap lkN) ks.length c] 0), (4, .ros ((bfL n ks).map n64) n none), (6, .slice 0 0 (1 <<< n) (1 <<< n)), (7, .slice 1 0 (1 <<< n) (1 <<< n)), (10, i64 ((m : Nat) : Int)), (11, i64 ((0 : Nat) : Int))]) (H' := [(0, some (.cells ((upK n (nxQ n ks) (1 <<< n) 0).map n64) 2)), (1, some (.cells ((enK n (nxQ n ks) m 0).map n64) 2))]) (n := 2) rfl (fun mz_ qz_ => ∃ (k : Nat), k ≤ n ∧ mz_ = n - k ∧ qz_ = ⟨[(1, .rop [i64 ((n : Nat) : Int), .ros (ks.flatMap lkN) ks.length c] 0), (4, .ros ((bfL n ks).map n64) n none), (6, .slice 0 0 (1 <<< n) (1 <<< n)), (7, .slice 1 0 (1 <<< n) (1 <<< n)), (10, i64 ((m : Nat) : Int)), (11, i64 ((k : Nat) : Int))], [(0, some (.cells ((upK n (nxQ n ks) (1 <<< n) 0).map n64) 2)), (1, some (.cells ((enK n (nxQ n ks) m k).map n64) 2))], 2, []⟩) ⟨0, (by omega), rfl, rfl⟩ id ⟨eD rfl rfl, eD rfl rfl, e_ rfl rfl, e_ rfl rfl, eD rfl rfl, eD rfl rfl, trivial⟩ ⟨rD (mapD (fun _ => rfl) _) rfl rfl, rD (mapD (fun _ => rfl) _) rfl rfl, trivial⟩ rfl rfl rfl rfl (fun _ _ => rfl) ?_
      rintro _ _ ⟨k, hi3_0, rfl, rfl⟩
      refine W_seq rfl ?_
      refine W_seq rfl ?_
      refine W_reg rfl ?_
      refine Rv rfl rfl rfl (U_move rfl) rfl rfl ?_
      refine Rv rfl rfl rfl (U_fieldAddrR rfl) rfl rfl ?_
      refine Rv rfl rfl rfl (U_load1 rfl rfl rfl) rfl rfl ?_
      refine Rv rfl rfl rfl (U_lss rfl rfl) rfl rfl ?_
      refine Re rfl ?_
      refine thenQ_n ?_
      refine WcondP rfl rfl (fun hc4 => ?_) (fun hc4 => ?_)
      · have hkn : k < n := by omega
        have hbi : k < (bfL n ks).length := by omega
        have hbk : bfN n ks k = (bfL n ks)[k] := getD_eq hbi
        have hbx : (bfL n ks)[k] < 1024 := bfL_lt' hv _ (List.getElem_mem _)
        have h10 : m < 1024 := by omega
        refine W_skip rfl ?_
        refine thenQ_n ?_
        refine W_seq rfl ?_
        refine W_block rfl ?_
        refine W_seq rfl ?_
        refine Wdraw rfl (by kernel_rfl) (by kernel_rfl) ?_
        refine Dv rfl rfl rfl (U_move rfl) rfl rfl ?_
        refine Dv rfl rfl rfl (U_move rfl) rfl rfl ?_
        refine Dv rfl rfl rfl (U_shr rfl rfl (by omega) (shrN (n := m) (i := k) (lt63 h10))) rfl rfl ?_
        refine Dv rfl rfl rfl (U_and rfl rfl (andN (a := m >>> k) (b := 1) (sh63 h10) (by omega))) rfl rfl ?_
        refine Dv rfl rfl rfl (U_eql rfl rfl) rfl rfl ?_
        refine Dv rfl rfl rfl (U_move rfl) rfl rfl ?_
        refine Dsplit (t := 86) rfl (fun hg7 => ?_) (fun hg7 => ?_)
        · rw [hg7]
          have hg7' : (((m >>> k) &&& 1 : Nat) : Int) = 0 := of_decide_eq_true hg7
          have hcg1 := hg7'
          refine Dv rfl rfl rfl (U_move rfl) rfl rfl ?_
          refine Dv rfl rfl rfl (U_move rfl) rfl rfl ?_
          have hx8 : k < (bfL n ks).length := by omega
          refine Dv rfl rfl rfl (U_indexR (j := k) rfl rfl rfl (by omega)) rfl rfl ?_
          refine Dv rfl rfl rfl (U_load1 rfl rfl (getM hx8)) rfl rfl ?_
          refine Dv rfl rfl rfl (U_move rfl) rfl rfl ?_
          refine Dv rfl rfl rfl (U_and rfl rfl (andN (a := (bfL n ks)[k]) (b := m) (lt63 hbx) (lt63 h10))) rfl rfl ?_
          refine Dv rfl rfl rfl (U_move rfl) rfl rfl ?_
          refine Dv rfl rfl rfl (U_move rfl) rfl rfl ?_
          refine Dv rfl rfl rfl (U_indexR (j := k) rfl rfl rfl (by omega)) rfl rfl ?_
          refine Dv rfl rfl rfl (U_load1 rfl rfl (getM hx8)) rfl rfl ?_
          refine Dv rfl rfl rfl (U_eql rfl rfl) rfl rfl ?_
          refine Dv rfl rfl rfl (U_pick_t rfl rfl) rfl rfl ?_
          refine Dr.nil rfl ?_
          refine thenQ_n ?_
          refine WcondP rfl rfl (fun hc5 => ?_) (fun hc5 => ?_)
          · have hnx : nxQ n ks m k = true := by show nxR (bfN n ks) m k = true; unfold nxR; rw [hbk, decide_eq_true hcg1, decide_eq_true hc5]; rfl
            have had : m ||| 1 <<< k < 2 ^ n := ad_lt hm hkn
            have hgt : m < m ||| 1 <<< k := ad_gt (hx _ _ hnx)
            have hne : m ≠ full n := by { rintro rfl; rw [nx_full hx hkn] at hnx; cases hnx }
            have hadl : m ||| 1 <<< k < (enK n (nxQ n ks) m k).length := by rw [enK_len, one_shl (n := n)]; exact had
            have hml : m < (enK n (nxQ n ks) m k).length := by rw [enK_len, one_shl (n := n)]; exact hm
            have hu : (enK n (nxQ n ks) m k)[m] = enR n (nxQ n ks) m k := enK_at1 hml
            have hv_ : (enK n (nxQ n ks) m k)[m ||| 1 <<< k] = en n (nxQ n ks) (ad m k) := enK_at2 hgt hadl
            have hb1 := enR_le hn hx hm (show k ≤ n by omega)
            have hb2 : en n (nxQ n ks) (ad m k) ≤ 3628800 := en_lt hx hn had
            refine Wdraw rfl (by kernel_rfl) (by kernel_rfl) ?_
            refine Dv rfl rfl rfl (U_move rfl) rfl rfl ?_
            refine Dv rfl rfl rfl (U_move rfl) rfl rfl ?_
            have hx9 : m < (enK n (nxQ n ks) m k).length := by omega
            refine Dv rfl rfl rfl (U_indexS (j := m) rfl rfl rfl (by omega)) rfl rfl ?_
            refine Dv rfl rfl rfl (U_load1 rfl rfl (getM0 hx9)) rfl rfl ?_
            refine Dv rfl rfl rfl (U_move rfl) rfl rfl ?_
            refine Dv rfl rfl rfl (U_move rfl) rfl rfl ?_
            refine Dv rfl rfl rfl (U_move rfl) rfl rfl ?_
            refine Dv rfl rfl rfl (U_shl rfl rfl (by omega) (shlN (n := 1) (i := k) (shl63 (by omega)) (by omega))) rfl rfl ?_
            refine Dv rfl rfl rfl (U_or rfl rfl (orN (a := m) (b := 1 <<< k) (lt63 h10) (lt63 (shl1024 (by omega))))) rfl rfl ?_
            have hx10 : (m ||| (1 <<< k)) < (enK n (nxQ n ks) m k).length := by omega
            refine Dv rfl rfl rfl (U_indexS (j := (m ||| (1 <<< k))) rfl rfl rfl (by omega)) rfl rfl ?_
            refine Dv rfl rfl rfl (U_load1 rfl rfl (getM0 hx10)) rfl rfl ?_
            refine Dv rfl rfl rfl (U_add rfl rfl (w64e (m := (((enK n (nxQ n ks) m k)[m] + ((enK n (nxQ n ks) m k)[(m ||| (1 <<< k))]) : Nat) : Int)) (by omega) (by omega) (by omega))) rfl rfl ?_
            refine Dv rfl rfl rfl (U_indexS (j := m) rfl rfl rfl (by omega)) rfl rfl ?_
            refine Dn_ rfl rfl rfl (U_store (n := 1) (cs' := ((enK n (nxQ n ks) m k).set m ((enK n (nxQ n ks) m k)[m] + ((enK n (nxQ n ks) m k)[(m ||| (1 <<< k))]))).map n64) rfl rfl rfl rfl rfl (stLt hx9) rfl setM) rfl rfl ?_
            refine Dr.nil rfl ?_
            refine blkQ_n ?_
            refine thenQ_n ?_
            refine W_reg rfl ?_
            refine Rv rfl rfl rfl (U_move rfl) rfl rfl ?_
            refine Rv rfl rfl rfl (U_add rfl rfl (w64e (m := ((k + 1 : Nat) : Int)) (by omega) (by omega) (by omega))) rfl rfl ?_
            refine Rv rfl rfl rfl (U_assign rfl) rfl rfl ?_
            refine Re rfl ?_
            refine thenQ_n ?_
            first | rw [enK_T hne hnx hu hv_] | rw [enK_F hnx]
            exact againTo (T' := [(1, .rop [i64 ((n : Nat) : Int), .ros (ks.flatMap lkN) ks.length c] 0), (4, .ros ((bfL n ks).map n64) n none), (6, .slice 0 0 (1 <<< n) (1 <<< n)), (7, .slice 1 0 (1 <<< n) (1 <<< n)), (10, i64 ((m : Nat) : Int)), (11, i64 (((k + 1) : Nat) : Int))]) (H' := [(0, some (.cells ((upK n (nxQ n ks) (1 <<< n) 0).map n64) 2)), (1, some (.cells ((enK n (nxQ n ks) m (k + 1)).map n64) 2))]) (n := 2) (n - (k + 1)) ⟨k + 1, (by omega), rfl, rfl⟩ (by omega) id ⟨eD rfl rfl, eD rfl rfl, e_ rfl rfl, e_ rfl rfl, eD rfl rfl, eD rfl rfl, trivial⟩ ⟨rD (mapD (fun _ => rfl) _) rfl rfl, rD (mapD (fun _ => rfl) _) rfl rfl, trivial⟩ rfl rfl rfl rfl (fun _ _ => rfl)
          · have hnx : nxQ n ks m k = false := by show nxR (bfN n ks) m k = false; unfold nxR; rw [hbk, decide_eq_true hcg1, decide_eq_false hc5]; rfl
            refine W_skip rfl ?_
            refine blkQ_n ?_
            refine thenQ_n ?_
            refine W_reg rfl ?_
            refine Rv rfl rfl rfl (U_move rfl) rfl rfl ?_
            refine Rv rfl rfl rfl (U_add rfl rfl (w64e (m := ((k + 1 : Nat) : Int)) (by omega) (by omega) (by omega))) rfl rfl ?_
            refine Rv rfl rfl rfl (U_assign rfl) rfl rfl ?_
            refine Re rfl ?_
            refine thenQ_n ?_
            first | rw [enK_T hne hnx hu hv_] | rw [enK_F hnx]
            exact againTo (T' := [(1, .rop [i64 ((n : Nat) : Int), .ros (ks.flatMap lkN) ks.length c] 0), (4, .ros ((bfL n ks).map n64) n none), (6, .slice 0 0 (1 <<< n) (1 <<< n)), (7, .slice 1 0 (1 <<< n) (1 <<< n)), (10, i64 ((m : Nat) : Int)), (11, i64 (((k + 1) : Nat) : Int))]) (H' := [(0, some (.cells ((upK n (nxQ n ks) (1 <<< n) 0).map n64) 2)), (1, some (.cells ((enK n (nxQ n ks) m (k + 1)).map n64) 2))]) (n := 2) (n - (k + 1)) ⟨k + 1, (by omega), rfl, rfl⟩ (by omega) id ⟨eD rfl rfl, eD rfl rfl, e_ rfl rfl, e_ rfl rfl, eD rfl rfl, eD rfl rfl, trivial⟩ ⟨rD (mapD (fun _ => rfl) _) rfl rfl, rD (mapD (fun _ => rfl) _) rfl rfl, trivial⟩ rfl rfl rfl rfl (fun _ _ => rfl)
        · rw [hg7]
          have hg7' : ¬ ((((m >>> k) &&& 1 : Nat) : Int) = 0) := of_decide_eq_false hg7
          have hnx : nxQ n ks m k = false := by show nxR (bfN n ks) m k = false; unfold nxR; rw [decide_eq_false hg7']; rfl
          refine Ds rfl rfl rfl rfl rfl ?_
          refine Ds rfl rfl rfl rfl rfl ?_
          refine Ds rfl rfl rfl rfl rfl ?_
          refine Ds rfl rfl rfl rfl rfl ?_
          refine Ds rfl rfl rfl rfl rfl ?_
          refine Ds rfl rfl rfl rfl rfl ?_
          refine Ds rfl rfl rfl rfl rfl ?_
          refine Ds rfl rfl rfl rfl rfl ?_
          refine Ds rfl rfl rfl rfl rfl ?_
          refine Ds rfl rfl rfl rfl rfl ?_
          refine Ds rfl rfl rfl rfl rfl ?_
          refine Dv rfl rfl rfl (U_pick_f rfl rfl) rfl rfl ?_
          refine Dr.nil rfl ?_
          refine thenQ_n ?_
          refine Wcond rfl rfl (fun h => nomatch h) (fun _ => ?_)
          refine W_skip rfl ?_
          refine blkQ_n ?_
          refine thenQ_n ?_
          refine W_reg rfl ?_
          refine Rv rfl rfl rfl (U_move rfl) rfl rfl ?_
          refine Rv rfl rfl rfl (U_add rfl rfl (w64e (m := ((k + 1 : Nat) : Int)) (by omega) (by omega) (by omega))) rfl rfl ?_
          refine Rv rfl rfl rfl (U_assign rfl) rfl rfl ?_
          refine Re rfl ?_
          refine thenQ_n ?_
          first | rw [enK_T hne hnx hu hv_] | rw [enK_F hnx]
          exact againTo (T' := [(1, .rop [i64 ((n : Nat) : Int), .ros (ks.flatMap lkN) ks.length c] 0), (4, .ros ((bfL n ks).map n64) n none), (6, .slice 0 0 (1 <<< n) (1 <<< n)), (7, .slice 1 0 (1 <<< n) (1 <<< n)), (10, i64 ((m : Nat) : Int)), (11, i64 (((k + 1) : Nat) : Int))]) (H' := [(0, some (.cells ((upK n (nxQ n ks) (1 <<< n) 0).map n64) 2)), (1, some (.cells ((enK n (nxQ n ks) m (k + 1)).map n64) 2))]) (n := 2) (n - (k + 1)) ⟨k + 1, (by omega), rfl, rfl⟩ (by omega) id ⟨eD rfl rfl, eD rfl rfl, e_ rfl rfl, e_ rfl rfl, eD rfl rfl, eD rfl rfl, trivial⟩ ⟨rD (mapD (fun _ => rfl) _) rfl rfl, rD (mapD (fun _ => rfl) _) rfl rfl, trivial⟩ rfl rfl rfl rfl (fun _ _ => rfl)
      · obtain rfl : n = k := by omega
        rw [enK_all hx hm]
        refine W_exit rfl ?_
        refine thenQ_x ?_
        refine thenQ_x ?_
        refine blkQ_x rfl ?_
        refine blkQ_n ?_
        refine thenQ_n ?_
        refine W_reg rfl ?_
        refine Rv rfl rfl rfl (U_move rfl) rfl rfl ?_
        refine Rv rfl rfl rfl (U_sub rfl rfl (w64 (by omega) (by omega))) rfl rfl ?_
        refine Rv rfl rfl rfl (U_assign rfl) rfl rfl ?_
        refine Re rfl ?_
        refine thenQ_n ?_
        exact againTo (T' := [(1, .rop [i64 ((n : Nat) : Int), .ros (ks.flatMap lkN) ks.length c] 0), (4, .ros ((bfL n ks).map n64) n none), (6, .slice 0 0 (1 <<< n) (1 <<< n)), (7, .slice 1 0 (1 <<< n) (1 <<< n)), (10, i64 (((m : Nat) : Int) - 1))]) (H' := [(0, some (.cells ((upK n (nxQ n ks) (1 <<< n) 0).map n64) 2)), (1, some (.cells ((enV n (nxQ n ks) (min m (full n))).map n64) 2))]) (n := 2) (0 + m) ⟨m, (by omega), rfl, rfl⟩ (by omega) id ⟨eD rfl rfl, eD rfl rfl, e_ rfl rfl, e_ rfl rfl, eD rfl rfl, trivial⟩ ⟨rD (mapD (fun _ => rfl) _) rfl rfl, rD (mapD (fun _ => rfl) _) rfl rfl, trivial⟩ rfl rfl rfl rfl (fun _ _ => rfl)
    · obtain rfl : s = 0 := by omega
      rw [Nat.zero_min]
      refine W_exit rfl ?_
      refine thenQ_x ?_
      refine thenQ_x ?_
      refine blkQ_x rfl ?_
      refine thenQ_n ?_
      refine W_seq rfl ?_
      refine W_reg rfl ?_
      refine Rv rfl rfl rfl (U_move rfl) rfl rfl ?_
      refine Rv rfl rfl rfl (U_move rfl) rfl rfl ?_
      refine Rv rfl rfl rfl (U_assign rfl) rfl rfl ?_
      refine Rv rfl rfl rfl (U_assign rfl) rfl rfl ?_
      refine Re rfl ?_
      refine thenQ_n ?_
      refine WfrN 0 rfl (mapD (fun _ => rfl) _) (T' := [(2, .ros ((upK n (nxQ n ks) (1 <<< n) 0).map n64) (1 <<< n) (some (1 <<< n))), (3, .slice 1 0 (1 <<< n) (1 <<< n))]) (H' := [(1, some (.cells ((enV n (nxQ n ks) 0).map n64) 2))]) ⟨⟨_, rfl, fr_sl (Nat.le_refl _)⟩, ⟨_, rfl, rfl⟩, trivial⟩ ⟨⟨rfl, rFD (mapD (fun _ => rfl) _) rfl⟩, trivial⟩ ?_
      refine WfrN 1 rfl (mapD (fun _ => rfl) _) (T' := [(2, .ros ((upK n (nxQ n ks) (1 <<< n) 0).map n64) (1 <<< n) (some (1 <<< n))), (3, .ros ((enV n (nxQ n ks) 0).map n64) (1 <<< n) (some (1 <<< n)))]) (H' := []) ⟨⟨_, rfl, rfl⟩, ⟨_, rfl, fr_sl (Nat.le_refl _)⟩, trivial⟩ trivial ?_
      refine WweakT (j := 2) rfl le_cap ?_
      refine WweakT (j := 3) rfl le_cap ?_
      refine W_ret rfl ?_
      exact retL (rlT rfl (rlT rfl rl0)) rfl rfl
end Go.Proofs.Ythmibifghihdaaa
end

section
namespace Go.Proofs.Ythmibifghihdaaa
set_option maxRecDepth 20000
open Go.AE
theorem countOf_p (n : Nat) (ks : List (Nat × Nat)) (c : Option Nat) (hv : VB n ks) : Pure Try.prog 70 [bknA n ks c] (i64 ((cntQ n ks : Nat) : Int)) := by
  have hv' := hv
  obtain ⟨hn1, hn, hkl, hk⟩ := hv'
  have h1024 := shl_le hn
  have h2n := shl_ge hn1
  refine pure_of_body Try.func70 (c := body Try.f70) rfl (by simp [Try.ntmps70]) fun w0 Φ0 => ?_
  refine W_seq rfl ?_
  refine W_reg rfl ?_
  refine Rv rfl rfl rfl (U_boxF rfl rfl rfl) rfl rfl ?_
  refine Rv rfl rfl rfl (U_assign rfl) rfl rfl ?_
  refine Re rfl ?_
  refine thenQ_n ?_
  refine W_seq rfl ?_
  refine W_reg rfl ?_
  refine Rv rfl rfl rfl (U_load2 rfl rfl rfl rfl) rfl rfl ?_
  refine Rv rfl rfl rfl (U_call rfl rfl (ways_p n ks c hv) rfl) rfl rfl ?_
  refine Rv rfl rfl rfl (U_move rfl) rfl rfl ?_
  refine Rv rfl rfl rfl (U_extract rfl rfl) rfl rfl ?_
  refine Rv rfl rfl rfl (U_extract rfl rfl) rfl rfl ?_
  refine Rv rfl rfl rfl (U_assign rfl) rfl rfl ?_
  refine Rv rfl rfl rfl (U_assign rfl) rfl rfl ?_
  refine Re rfl ?_
  refine thenQ_n ?_
  refine W_seq rfl ?_
  refine W_reg rfl ?_
  refine Rv rfl rfl rfl (U_move rfl) rfl rfl ?_
  refine Rv rfl rfl rfl (U_move rfl) rfl rfl ?_
  refine Rv rfl rfl rfl (U_lenOf rfl len_ros) rfl rfl ?_
  refine Rv rfl rfl rfl (U_sub rfl rfl (w64e (m := ((1 <<< n - 1 : Nat) : Int)) (by omega) (by omega) (by omega))) rfl rfl ?_
  have hul : (upK n (nxQ n ks) (1 <<< n) 0).length = 1 <<< n := upK_len
  have hx1 : (1 <<< n - 1) < (upK n (nxQ n ks) (1 <<< n) 0).length := by omega
  refine Rv rfl rfl rfl (U_indexR (j := (1 <<< n - 1)) rfl rfl rfl (by omega)) rfl rfl ?_
  refine Rv rfl rfl rfl (U_load1 rfl rfl (getM hx1)) rfl rfl ?_
  refine Rv rfl rfl rfl (U_assign rfl) rfl rfl ?_
  refine Re rfl ?_
  refine thenQ_n ?_
  refine W_ret rfl ?_
  exact retL (rlT rfl rl0) (by first | rfl | (simp only [packA]; rw [upK_end (show 1 <<< n - 1 < 2 ^ n by rw [← one_shl (n := n)]; omega), ← cnt_R hv, full_shl]; first | done | rfl)) rfl
end Go.Proofs.Ythmibifghihdaaa
end

section
namespace Go.Proofs.Ythmibifghihdaaa
set_option maxRecDepth 20000
open Go.AE
theorem withR_0 (n : Nat) (c : Option Nat) (a b : Nat) : Pure Try.prog 51 [bknA n [] c, i64 (a : Nat), i64 (b : Nat)] (bknA n [(a, b)] none) := by
  refine pure_of_body Try.func51 (c := body Try.f51) rfl (by simp [Try.ntmps51]) fun w0 Φ0 => ?_
  refine W_seq rfl ?_
  refine W_reg rfl ?_
  refine Rv rfl rfl rfl (U_boxF rfl rfl rfl) rfl rfl ?_
  refine Ra rfl rfl rfl (U_alloc) rfl rfl rfl ?_
  refine Re rfl ?_
  refine thenQ_n ?_
  refine W_seq rfl ?_
  refine WdrawL [8, 11] rfl (by kernel_rfl) (by kernel_rfl) ?_
  refine Dv rfl rfl rfl (U_fieldAddrR rfl) rfl rfl ?_
  refine Dv rfl rfl rfl (U_load1 rfl rfl rfl) rfl rfl ?_
  refine Dv rfl rfl rfl (U_buildSliceF (by rfl) (by decide) rfl rfl rfl) rfl rfl ?_
  refine Dv rfl rfl rfl (U_fieldAddrR rfl) rfl rfl ?_
  refine Dv rfl rfl rfl (U_load1 rfl rfl rfl) rfl rfl ?_
  refine Dv rfl rfl rfl (U_app0G rfl rfl lenk_ros (len0_ros rfl)) rfl rfl ?_
  refine Dv rfl rfl rfl (U_move rfl) rfl rfl ?_
  refine Dv rfl rfl rfl (U_move rfl) rfl rfl ?_
  refine Dv rfl rfl rfl (U_build rfl rfl) rfl rfl ?_
  refine Dv rfl rfl rfl (U_buildSliceF (by rfl) (by decide) rfl rfl rfl) rfl rfl ?_
  refine Da rfl rfl rfl (U_appL (news := [(a, b)].flatMap lkN) (n' := [(a, b)].length) rfl rfl rfl rfl rfl (by simp) (by simp) rfl) rfl rfl rfl rfl ?_
  refine Dv rfl rfl rfl (U_build rfl rfl) rfl rfl ?_
  refine Dn_ rfl rfl rfl (U_storeAll rfl rfl rfl rfl rfl rfl) rfl rfl ?_
  refine Dr.nil rfl ?_
  refine thenQ_n ?_
  refine WfrO 1 ([(a, b)].flatMap lkN) rfl (flatD (fun _ => rfl) _) (T' := [(6, .ptr 0 0)]) (H' := [(0, some (.cells [i64 ((n : Nat) : Int), .ros ([(a, b)].flatMap lkN) ([(a, b)].length) none] 24))]) ⟨fS rfl rfl, trivial⟩ ⟨⟨rfl, .cells (.cons (.same rfl) (.cons .out .nil))⟩, trivial⟩ ?_
  refine W_ret rfl ?_
  exact retL (rlA rfl rfl rfl rl0) rfl rfl
theorem withR_1 (n : Nat) (ks : List (Nat × Nat)) (c : Option Nat) (hl : ks.length ≤ 1000) (hp : 0 < ks.length) (a b : Nat) : Pure Try.prog 51 [bknA n ks c, i64 (a : Nat), i64 (b : Nat)] (bknA n (ks ++ [(a, b)]) none) := by
  refine pure_of_body Try.func51 (c := body Try.f51) rfl (by simp [Try.ntmps51]) fun w0 Φ0 => ?_
  refine W_seq rfl ?_
  refine W_reg rfl ?_
  refine Rv rfl rfl rfl (U_boxF rfl rfl rfl) rfl rfl ?_
  refine Ra rfl rfl rfl (U_alloc) rfl rfl rfl ?_
  refine Re rfl ?_
  refine thenQ_n ?_
  refine W_seq rfl ?_
  refine WdrawL [8, 11] rfl (by kernel_rfl) (by kernel_rfl) ?_
  refine Dv rfl rfl rfl (U_fieldAddrR rfl) rfl rfl ?_
  refine Dv rfl rfl rfl (U_load1 rfl rfl rfl) rfl rfl ?_
  refine Dv rfl rfl rfl (U_buildSliceF (by rfl) (by decide) rfl rfl rfl) rfl rfl ?_
  refine Dv rfl rfl rfl (U_fieldAddrR rfl) rfl rfl ?_
  refine Dv rfl rfl rfl (U_load1 rfl rfl rfl) rfl rfl ?_
  refine Da rfl rfl rfl (U_appL (n' := ks.length) rfl rfl rfl rfl (srcR (flat_len (z := 2) (fun _ => rfl) _)) (by omega) (by omega) rfl) rfl rfl rfl rfl ?_
  refine Dv rfl rfl rfl (U_move rfl) rfl rfl ?_
  refine Dv rfl rfl rfl (U_move rfl) rfl rfl ?_
  refine Dv rfl rfl rfl (U_build rfl rfl) rfl rfl ?_
  refine Dv rfl rfl rfl (U_buildSliceF (by rfl) (by decide) rfl rfl rfl) rfl rfl ?_
  refine Da rfl rfl rfl (U_appO (b := 1) (cs := ks.flatMap lkN) (m := 0) (cs' := (ks ++ [(a, b)]).flatMap lkN) (n' := (ks ++ [(a, b)]).length) rfl rfl (by simp) rfl (flat_len (z := 2) (fun _ => rfl) _) rfl rfl (by omega) (lkApp _ _ _) (len1 _ _)) rfl rfl rfl (upsO rfl hp) ?_
  refine Dv rfl rfl rfl (U_build rfl rfl) rfl rfl ?_
  refine Dn_ rfl rfl rfl (U_storeAll rfl rfl rfl rfl rfl rfl) rfl rfl ?_
  refine Dr.nil rfl ?_
  refine thenQ_n ?_
  refine WfrO 2 ((ks ++ [(a, b)]).flatMap lkN) rfl (flatD (fun _ => rfl) _) (T' := [(6, .ptr 0 0)]) (H' := [(0, some (.cells [i64 ((n : Nat) : Int), .ros ((ks ++ [(a, b)]).flatMap lkN) ((ks ++ [(a, b)]).length) none] 24))]) ⟨fS rfl rfl, trivial⟩ ⟨⟨rfl, .cells (.cons (.same rfl) (.cons .out .nil))⟩, trivial⟩ ?_
  refine W_ret rfl ?_
  exact retL (rlA rfl rfl rfl rl0) rfl rfl
theorem withR_p (n : Nat) (ks : List (Nat × Nat)) (c : Option Nat) (hl : ks.length ≤ 1000) (a b : Nat) : Pure Try.prog 51 [bknA n ks c, i64 (a : Nat), i64 (b : Nat)] (bknA n (ks ++ [(a, b)]) none) := by
  rcases Nat.eq_zero_or_pos ks.length with h | h
  · obtain rfl := List.eq_nil_of_length_eq_zero h
    exact withR_0 n c a b
  · exact withR_1 n ks c hl h a b
end Go.Proofs.Ythmibifghihdaaa
end

section
namespace Go.Proofs.Ythmibifghihdaaa
set_option maxRecDepth 20000
open Go.AE
theorem nx_zero {D : List (List Nat) → Nat} {L : List (List Nat)} {l : List (Nat × Nat)} (h : D L = 0) : l.find? (gudP D L) = none := by
  rw [List.find?_eq_none]
  intro p _
  unfold gudP; rw [h]; simp
end Go.Proofs.Ythmibifghihdaaa
end

section
namespace Go.Proofs.Ythmibifghihdaaa
set_option maxRecDepth 20000
open Go.AE
theorem fewP_e (b : Bk) (c : Option Nat) (hl : b.ls.length ≤ 1000000) (e : Int) (he : e ≠ 0) (hr : Pure Try.prog 63 [bookA b c, .nils] (.tup [.nilp, i64 e])) : Pure Try.prog 77 [bookA b c] (.tup [.nilp, i64 e]) := by
  refine pure_of_body Try.func77 (c := body Try.f77) rfl (by simp [Try.ntmps77]) fun w0 Φ0 => ?_
  refine W_seq rfl ?_
  refine W_reg rfl ?_
  refine Rv rfl rfl rfl (U_boxF rfl rfl rfl) rfl rfl ?_
  refine Rv rfl rfl rfl (U_assign rfl) rfl rfl ?_
  refine Rv rfl rfl rfl (U_assign rfl) rfl rfl ?_
  refine Re rfl ?_
  refine thenQ_n ?_
  refine W_seq rfl ?_
  refine W_reg rfl ?_
  refine Rv rfl rfl rfl (U_load2 rfl rfl rfl rfl) rfl rfl ?_
  refine Rv rfl rfl rfl (U_call rfl rfl (hr) rfl) rfl rfl ?_
  refine Rv rfl rfl rfl (U_move rfl) rfl rfl ?_
  refine Rv rfl rfl rfl (U_extract rfl rfl) rfl rfl ?_
  refine Rv rfl rfl rfl (U_extract rfl rfl) rfl rfl ?_
  refine Rv rfl rfl rfl (U_assign rfl) rfl rfl ?_
  refine Rv rfl rfl rfl (U_assign rfl) rfl rfl ?_
  refine Re rfl ?_
  refine thenQ_n ?_
  refine W_seq rfl ?_
  refine W_block rfl ?_
  refine W_seq rfl ?_
  refine W_reg rfl ?_
  refine Rv rfl rfl rfl (U_move rfl) rfl rfl ?_
  refine Rv rfl rfl rfl (U_neq rfl rfl) rfl rfl ?_
  refine Rv rfl rfl rfl (U_assign rfl) rfl rfl ?_
  refine Re rfl ?_
  refine thenQ_n ?_
  refine WcondP rfl rfl (fun hc0 => ?_) (fun hc0 => absurd (he) hc0)
  refine W_seq rfl ?_
  refine W_reg rfl ?_
  refine Rv rfl rfl rfl (U_move rfl) rfl rfl ?_
  refine Rv rfl rfl rfl (U_assign rfl) rfl rfl ?_
  refine Rv rfl rfl rfl (U_assign rfl) rfl rfl ?_
  refine Re rfl ?_
  refine thenQ_n ?_
  refine W_ret rfl ?_
  refine blkQ_r ?_
  refine thenQ_r ?_
  exact retL (rlT rfl (rlT rfl rl0)) rfl rfl
theorem depth_e (b : Bk) (c : Option Nat) (hl : b.ls.length ≤ 1000000) (e : Int) (he : e ≠ 0) (hr : Pure Try.prog 63 [bookA b c, .nils] (.tup [.nilp, i64 e])) : Pure Try.prog 42 [bookA b c] (.tup [i64 0, i64 e]) := by
  refine pure_of_body Try.func42 (c := body Try.f42) rfl (by simp [Try.ntmps42]) fun w0 Φ0 => ?_
  refine W_seq rfl ?_
  refine W_reg rfl ?_
  refine Rv rfl rfl rfl (U_boxF rfl rfl rfl) rfl rfl ?_
  refine Rv rfl rfl rfl (U_assign rfl) rfl rfl ?_
  refine Rv rfl rfl rfl (U_assign rfl) rfl rfl ?_
  refine Re rfl ?_
  refine thenQ_n ?_
  refine W_seq rfl ?_
  refine W_reg rfl ?_
  refine Rv rfl rfl rfl (U_load2 rfl rfl rfl rfl) rfl rfl ?_
  refine Rv rfl rfl rfl (U_call rfl rfl (fewP_e b c hl e he hr) rfl) rfl rfl ?_
  refine Rv rfl rfl rfl (U_move rfl) rfl rfl ?_
  refine Rv rfl rfl rfl (U_extract rfl rfl) rfl rfl ?_
  refine Rv rfl rfl rfl (U_extract rfl rfl) rfl rfl ?_
  refine Rv rfl rfl rfl (U_assign rfl) rfl rfl ?_
  refine Rv rfl rfl rfl (U_assign rfl) rfl rfl ?_
  refine Re rfl ?_
  refine thenQ_n ?_
  refine W_seq rfl ?_
  refine W_seq rfl ?_
  refine W_reg rfl ?_
  refine Rv rfl rfl rfl (U_move rfl) rfl rfl ?_
  refine Rv rfl rfl rfl (U_neq rfl rfl) rfl rfl ?_
  refine Re rfl ?_
  refine thenQ_n ?_
  refine WcondP rfl rfl (fun hc0 => ?_) (fun hc0 => absurd (he) hc0)
  refine W_seq rfl ?_
  refine W_reg rfl ?_
  refine Rv rfl rfl rfl (U_move rfl) rfl rfl ?_
  refine Rv rfl rfl rfl (U_assign rfl) rfl rfl ?_
  refine Rv rfl rfl rfl (U_assign rfl) rfl rfl ?_
  refine Re rfl ?_
  refine thenQ_n ?_
  refine W_ret rfl ?_
  refine thenQ_r ?_
  exact retL (rlT rfl (rlT rfl rl0)) rfl rfl
end Go.Proofs.Ythmibifghihdaaa
end

section
namespace Go.Proofs.Ythmibifghihdaaa
set_option maxRecDepth 20000
open Go.AE
def grt (b : Bk) : Bool := decide ((50 : Int) < b.ls.length)
theorem great_p (b : Bk) (c : Option Nat) : Pure Try.prog 18 [bookA b c] (.bool (grt b)) := by
  refine pure_of_body Try.func18 (c := body Try.f18) rfl (by simp [Try.ntmps18]) fun w0 Φ0 => ?_
  refine W_seq rfl ?_
  refine W_reg rfl ?_
  refine Rv rfl rfl rfl (U_boxF rfl rfl rfl) rfl rfl ?_
  refine Rv rfl rfl rfl (U_assign rfl) rfl rfl ?_
  refine Re rfl ?_
  refine thenQ_n ?_
  refine W_seq rfl ?_
  refine W_reg rfl ?_
  refine Rv rfl rfl rfl (U_fieldAddrR rfl) rfl rfl ?_
  refine Rv rfl rfl rfl (U_load1 rfl rfl rfl) rfl rfl ?_
  refine Rv rfl rfl rfl (U_lenOf rfl len_ros) rfl rfl ?_
  refine Rv rfl rfl rfl (U_gtr rfl rfl) rfl rfl ?_
  refine Rv rfl rfl rfl (U_assign rfl) rfl rfl ?_
  refine Re rfl ?_
  refine thenQ_n ?_
  refine W_ret rfl ?_
  exact retL (rlT rfl rl0) (by first | rfl | (simp only [packA]; rfl; first | done | rfl)) rfl
end Go.Proofs.Ythmibifghihdaaa
end

section
namespace Go.Proofs.Ythmibifghihdaaa
set_option maxRecDepth 20000
open Go.AE
section
variable {n : Nat} {ks : List (Nat × Nat)}
end
theorem nilsW {f : FuncId} {a v : AV} (h : Pure Try.prog f [a, .ros [] 0 none] v) : Pure Try.prog f [a, .nils] v := h.weak (leL_cons (le_refl _) (leL_cons le_nils (leL_refl _)))
end Go.Proofs.Ythmibifghihdaaa
end

section
namespace Go.Proofs.Ythmibifghihdaaa
set_option maxRecDepth 20000
open Go.AE
theorem grt_l {b : Bk} (h : grt b = false) : b.ls.length ≤ 1000000 := by simp [grt] at h; omega
end Go.Proofs.Ythmibifghihdaaa
end

section
namespace Go.Proofs.Ythmibifghihdaaa
set_option maxRecDepth 20000
open Go.AE
def fneB (b : Bk) : Bool := !grt b && decide (chkB b = 0)
theorem fine_p (b : Bk) (c : Option Nat) : Pure Try.prog 46 [bookA b c] (.bool (fneB b)) := by
  refine pure_of_body Try.func46 (c := body Try.f46) rfl (by simp [Try.ntmps46]) fun w0 Φ0 => ?_
  refine W_seq rfl ?_
  refine W_reg rfl ?_
  refine Rv rfl rfl rfl (U_boxF rfl rfl rfl) rfl rfl ?_
  refine Rv rfl rfl rfl (U_assign rfl) rfl rfl ?_
  refine Re rfl ?_
  refine thenQ_n ?_
  refine W_seq rfl ?_
  refine Wjoin ⟨[(2, .bool ((!(grt b)) && (decide ((chkB b) = 0))))], [], 0, []⟩ ?_ ?_
  · refine W_reg rfl ?_
    refine Rv rfl rfl rfl (U_load2 rfl rfl rfl rfl) rfl rfl ?_
    refine Rv rfl rfl rfl (U_call rfl rfl (great_p b c) rfl) rfl rfl ?_
    refine Rv rfl rfl rfl (U_not rfl) rfl rfl ?_
    refine Rv rfl rfl rfl (U_move rfl) rfl rfl ?_
    refine Rsplit (t := 6) rfl (fun hg1 => ?_) (fun hg1 => ?_)
    · rw [hg1]
      have hgr : grt b = false := by simpa using hg1
      have hl := grt_l hgr
      refine Rv rfl rfl rfl (U_load2 rfl rfl rfl rfl) rfl rfl ?_
      refine Rv rfl rfl rfl (U_call rfl rfl (chkBR_p b c hl) rfl) rfl rfl ?_
      refine Rv rfl rfl rfl (U_eql rfl rfl) rfl rfl ?_
      refine Rv rfl rfl rfl (U_pick_t rfl rfl) rfl rfl ?_
      refine Rv rfl rfl rfl (U_assign rfl) rfl rfl ?_
      refine Re rfl ?_
      exact joinTo id ⟨eD rfl rfl, trivial⟩ trivial rfl rfl rfl rfl (fun _ _ => rfl)
    · rw [hg1]
      refine Rs rfl rfl rfl rfl rfl ?_
      refine Rs rfl rfl rfl rfl rfl ?_
      refine Rs rfl rfl rfl rfl rfl ?_
      refine Rv rfl rfl rfl (U_pick_f rfl rfl) rfl rfl ?_
      refine Rv rfl rfl rfl (U_assign rfl) rfl rfl ?_
      refine Re rfl ?_
      exact joinTo id ⟨eD rfl rfl, trivial⟩ trivial rfl rfl rfl rfl (fun _ _ => rfl)
  refine thenQ_n ?_
  refine W_ret rfl ?_
  exact retL (rlT rfl rl0) (by first | rfl | (simp only [packA]; rfl; first | done | rfl)) rfl
theorem fine_F (b : Bk) (c : Option Nat) (h : fneB b = false) : Pure Try.prog 46 [bookA b c] (.bool false) := by have := fine_p b c; rwa [h] at this
theorem fine_T (b : Bk) (c : Option Nat) (h : fneB b = true) : Pure Try.prog 46 [bookA b c] (.bool true) := by have := fine_p b c; rwa [h] at this
theorem fne_ok {b : Bk} (h : fneB b = true) : chkB b = 0 := by
  unfold fneB at h
  rw [Bool.and_eq_true, decide_eq_true_eq] at h
  exact h.2
end Go.Proofs.Ythmibifghihdaaa
end

section
namespace Go.Proofs.Ythmibifghihdaaa
set_option maxRecDepth 20000
open Go.AE
theorem ordered_F (b : Bk) (c : Option Nat) (hf : fneB b = false) : Pure Try.prog 47 [bookA b c] (.bool false) := by
  refine pure_of_body Try.func47 (c := body Try.f47) rfl (by simp [Try.ntmps47]) fun w0 Φ0 => ?_
  refine W_seq rfl ?_
  refine W_reg rfl ?_
  refine Rv rfl rfl rfl (U_boxF rfl rfl rfl) rfl rfl ?_
  refine Rv rfl rfl rfl (U_assign rfl) rfl rfl ?_
  refine Re rfl ?_
  refine thenQ_n ?_
  refine W_seq rfl ?_
  refine W_reg rfl ?_
  refine Rv rfl rfl rfl (U_load2 rfl rfl rfl rfl) rfl rfl ?_
  refine Rv rfl rfl rfl (U_call rfl rfl (fine_F b c hf) rfl) rfl rfl ?_
  refine Rv rfl rfl rfl (U_move rfl) rfl rfl ?_
  refine Rs rfl rfl rfl rfl rfl ?_
  refine Rs rfl rfl rfl rfl rfl ?_
  refine Rs rfl rfl rfl rfl rfl ?_
  refine Rv rfl rfl rfl (U_pick_f rfl rfl) rfl rfl ?_
  refine Rv rfl rfl rfl (U_assign rfl) rfl rfl ?_
  refine Re rfl ?_
  refine thenQ_n ?_
  refine W_ret rfl ?_
  exact retL (rlT rfl rl0) rfl rfl
theorem ordered_Y (n : Nat) (ks : List (Nat × Nat)) (c : Option Nat) (hv : VB n ks) (hf : Pure Try.prog 46 [bknA n ks c] (.bool true)) (g : Nat) (hg : Cyc n ks g) : Pure Try.prog 47 [bknA n ks c] (.bool false) := by
  refine pure_of_body Try.func47 (c := body Try.f47) rfl (by simp [Try.ntmps47]) fun w0 Φ0 => ?_
  refine W_seq rfl ?_
  refine W_reg rfl ?_
  refine Rv rfl rfl rfl (U_boxF rfl rfl rfl) rfl rfl ?_
  refine Rv rfl rfl rfl (U_assign rfl) rfl rfl ?_
  refine Re rfl ?_
  refine thenQ_n ?_
  refine W_seq rfl ?_
  refine W_reg rfl ?_
  refine Rv rfl rfl rfl (U_load2 rfl rfl rfl rfl) rfl rfl ?_
  refine Rv rfl rfl rfl (U_call rfl rfl (hf) rfl) rfl rfl ?_
  refine Rv rfl rfl rfl (U_move rfl) rfl rfl ?_
  refine Rv rfl rfl rfl (U_load2 rfl rfl rfl rfl) rfl rfl ?_
  refine Rv rfl rfl rfl (U_call rfl rfl (countOf_p n ks c hv) rfl) rfl rfl ?_
  refine Rv rfl rfl rfl (OpU.toB (U_gtr rfl rfl) (decide_eq_false (by rw [cnt_cyc hv hg]; simp))) rfl rfl ?_
  refine Rv rfl rfl rfl (U_pick_t rfl rfl) rfl rfl ?_
  refine Rv rfl rfl rfl (U_assign rfl) rfl rfl ?_
  refine Re rfl ?_
  refine thenQ_n ?_
  refine W_ret rfl ?_
  exact retL (rlT rfl rl0) rfl rfl
theorem ordered_A (n : Nat) (ks : List (Nat × Nat)) (c : Option Nat) (hv : VB n ks) (hf : Pure Try.prog 46 [bknA n ks c] (.bool true)) (ha : Acy n ks) : Pure Try.prog 47 [bknA n ks c] (.bool true) := by
  refine pure_of_body Try.func47 (c := body Try.f47) rfl (by simp [Try.ntmps47]) fun w0 Φ0 => ?_
  refine W_seq rfl ?_
  refine W_reg rfl ?_
  refine Rv rfl rfl rfl (U_boxF rfl rfl rfl) rfl rfl ?_
  refine Rv rfl rfl rfl (U_assign rfl) rfl rfl ?_
  refine Re rfl ?_
  refine thenQ_n ?_
  refine W_seq rfl ?_
  refine W_reg rfl ?_
  refine Rv rfl rfl rfl (U_load2 rfl rfl rfl rfl) rfl rfl ?_
  refine Rv rfl rfl rfl (U_call rfl rfl (hf) rfl) rfl rfl ?_
  refine Rv rfl rfl rfl (U_move rfl) rfl rfl ?_
  refine Rv rfl rfl rfl (U_load2 rfl rfl rfl rfl) rfl rfl ?_
  refine Rv rfl rfl rfl (U_call rfl rfl (countOf_p n ks c hv) rfl) rfl rfl ?_
  refine Rv rfl rfl rfl (OpU.toB (U_gtr rfl rfl) (decide_eq_true (by have := cnt_acy hv ha; omega))) rfl rfl ?_
  refine Rv rfl rfl rfl (U_pick_t rfl rfl) rfl rfl ?_
  refine Rv rfl rfl rfl (U_assign rfl) rfl rfl ?_
  refine Re rfl ?_
  refine thenQ_n ?_
  refine W_ret rfl ?_
  exact retL (rlT rfl rl0) rfl rfl
theorem cntA_p (n : Nat) (ks : List (Nat × Nat)) (c : Option Nat) (hv : VB n ks) (h40 : ks.length ≤ 40) (ha : Acy n ks) : Pure Try.prog 28 [bknA n ks c] (.tup [i64 ((cntQ n ks : Nat) : Int), i64 0]) := countP_a n ks c hv h40 ha
end Go.Proofs.Ythmibifghihdaaa
end

section
namespace Go.Proofs.Ythmibifghihdaaa
set_option maxRecDepth 20000
open Go.AE
theorem xy_ne {n x t : Nat} (hx : x < n) (ht : t < n - 1) : x ≠ (x + 1 + t) % n := by
  rcases Nat.lt_or_ge (x + 1 + t) n with h | h
  · rw [Nat.mod_eq_of_lt h]; omega
  · rw [Nat.mod_eq_sub_mod h, Nat.mod_eq_of_lt (by omega)]; omega
end Go.Proofs.Ythmibifghihdaaa
end

section
namespace Go.Proofs.Ythmibifghihdaaa
set_option maxRecDepth 20000
open Go.AE
section
variable {n : Nat} {ks : List (Nat × Nat)}
theorem flt_comm {L : List (List Nat)} {f : List Nat → Bool} {x y : Nat} : prt (L.filter f) x y = (prt L x y).filter f := by
  unfold prt; rw [List.filter_filter, List.filter_filter]; exact List.filter_congr fun o _ => Bool.and_comm _ _
theorem flt_fit {L : List (List Nat)} {f : List Nat → Bool} (h : Fit n L) : Fit n (L.filter f) := ⟨List.Pairwise.filter _ h.1, fun o ho => h.2 o (List.mem_filter.1 ho).1⟩
theorem dp_6 (hn : n ≤ 4) {L : List (List Nat)} (h24 : L.length ≤ 24) (hf : Fit n L) : dpQ n L ≤ 6 := by
  have h := dp_opc hn _ L (Nat.le_refl _) h24 hf
  have h4 : opc n L ≤ (prQ n).length := List.countP_le_length
  have := prQ_len hn
  omega
theorem prt_all {L : List (List Nat)} {x y : Nat} (h : ∀ o ∈ L, IsP n o) (hx : x < n) (hxy : x ≠ y) (h0 : (prt L x y).length = 0) : prt L y x = L := by
  unfold prt
  rw [List.filter_eq_self]
  intro o ho
  rw [prt_both (h o ho) hx hxy]
  cases e : prtB x y o with
  | false => rfl
  | true =>
    have : o ∈ prt L x y := List.mem_filter.2 ⟨ho, e⟩
    rw [List.eq_nil_of_length_eq_zero h0] at this
    cases this
theorem dp_flt (hn : n ≤ 4) (f : List Nat → Bool) : ∀ (k : Nat) (M : List (List Nat)), M.length ≤ k → M.length ≤ 24 → Fit n M → dpQ n (M.filter f) ≤ dpQ n M
  | 0, M, hk, _, _ => by
    have := List.length_filter_le f M
    rw [dpQ_0 (by omega)]; omega
  | k + 1, M, hk, h24, hf => by
    have hl := List.length_filter_le f M
    have hff := flt_fit (f := f) hf
    by_cases h1 : 1 < (M.filter f).length
    · have hm := (dp_main hn M.length M (Nat.le_refl _) h24 hf).2 (by omega)
      have hL := (dp_main hn (M.filter f).length (M.filter f) (Nat.le_refl _) (by omega) hff).2 h1
      rcases (mnF_le (D := dpQ n) (L := M) (v := dpQ n M) (prQ n) 100).1 (by omega) with h | ⟨p, hp, ho, hv⟩
      · have := dp_6 hn h24 hf; omega
      · have hin := prQ_in hp
        have hs := prt_sum (fun o ho => hf.2 o ho) (show p.1 < n by omega) (show p.1 ≠ p.2 by omega)
        have hop := opn_T.1 ho
        have i1 := dp_flt hn f k (prt M p.1 p.2) (by omega) (by omega) (fit_prt hf)
        have i2 := dp_flt hn f k (prt M p.2 p.1) (by omega) (by omega) (fit_prt hf)
        rw [← flt_comm] at i1 i2
        unfold vlD at hv
        by_cases hz : (prt (M.filter f) p.1 p.2).length = 0
        · rw [prt_all (fun o ho => hff.2 o ho) (by omega) (by omega) hz] at i2; omega
        · by_cases hz2 : (prt (M.filter f) p.2 p.1).length = 0
          · rw [prt_all (fun o ho => hff.2 o ho) hin.2 (by omega) hz2] at i1; omega
          · have := (mnF_le (D := dpQ n) (L := M.filter f) (v := 1 + max (dpQ n (prt M p.1 p.2)) (dpQ n (prt M p.2 p.1))) (prQ n) 100).2 (.inr ⟨p, hp, opn_T.2 ⟨by omega, by omega⟩, by unfold vlD; omega⟩)
            omega
    · rw [dpQ_0 (by omega)]; omega
theorem prQ_have {a b : Nat} (h1 : a < b) (h2 : b < n) : (a, b) ∈ prQ n := by
  unfold prQ prK
  exact List.mem_flatMap.2 ⟨a, List.mem_range.2 (by omega), by unfold prR; exact List.mem_map.2 ⟨b, List.mem_range'_1.2 (by omega), rfl⟩⟩
theorem dp_less (hn : n ≤ 4) {L : List (List Nat)} (h24 : L.length ≤ 24) (hf : Fit n L) (hL : 0 < L.length) {x y : Nat} (hx : x < n) (hy : y < n) (hxy : x ≠ y) : (0 < (prt L x y).length ∧ dpQ n L ≤ dpQ n (prt L x y) + 1) ∨ (0 < (prt L y x).length ∧ dpQ n L ≤ dpQ n (prt L y x) + 1) := by
  have hs := prt_sum (fun o ho => hf.2 o ho) hx hxy
  by_cases hz : (prt L x y).length = 0
  · exact .inr ⟨by omega, by rw [prt_all (fun o ho => hf.2 o ho) hx hxy hz]; omega⟩
  · by_cases hz2 : (prt L y x).length = 0
    · exact .inl ⟨by omega, by rw [prt_all (fun o ho => hf.2 o ho) hy (Ne.symm hxy) hz2]; omega⟩
    · have hm := (dp_main hn L.length L (Nat.le_refl _) h24 hf).2 (by omega)
      have key : dpQ n L ≤ 1 + max (dpQ n (prt L x y)) (dpQ n (prt L y x)) := by
        rw [hm]
        rcases Nat.lt_or_ge x y with h | h
        · exact (mnF_le (prQ n) 100).2 (.inr ⟨(x, y), prQ_have h hy, opn_T.2 ⟨by simp only; omega, by simp only; omega⟩, Nat.le_refl _⟩)
        · exact (mnF_le (prQ n) 100).2 (.inr ⟨(y, x), prQ_have (by omega) hx, opn_T.2 ⟨by simp only; omega, by simp only; omega⟩, by unfold vlD; simp only; omega⟩)
      omega
theorem dp_pos {L : List (List Nat)} (h : 0 < dpQ n L) : 1 < L.length := by
  refine Classical.byContradiction fun hc => ?_
  rw [dpQ_0 (by omega)] at h; omega
theorem nxt_have (hn : n ≤ 4) {L : List (List Nat)} (h24 : L.length ≤ 24) (hf : Fit n L) (h : 0 < dpQ n L) : ∃ p, (prQ n).find? (gudP (dpQ n) L) = some p ∧ p.1 < p.2 ∧ p.2 < n ∧ dpQ n (prt L p.1 p.2) < dpQ n L ∧ dpQ n (prt L p.2 p.1) < dpQ n L := by
  have h1 := dp_pos h
  have hm := (dp_main hn L.length L (Nat.le_refl _) h24 hf).2 h1
  have hex : ∃ p ∈ prQ n, gudP (dpQ n) L p = true := by
    rcases (mnF_le (D := dpQ n) (L := L) (v := dpQ n L) (prQ n) 100).1 (by omega) with h | ⟨p, hp, _, hv⟩
    · have := dp_6 hn h24 hf; omega
    · unfold vlD at hv
      exact ⟨p, hp, by unfold gudP; rw [decide_eq_true (by omega), decide_eq_true (by omega)]; rfl⟩
  cases hfi : (prQ n).find? (gudP (dpQ n) L) with
  | none =>
    obtain ⟨p, hp, hg⟩ := hex
    exact absurd hg (by have := List.find?_eq_none.1 hfi p hp; simpa using this)
  | some p =>
    have hin := prQ_in (List.mem_of_find?_eq_some hfi)
    have hg := List.find?_some hfi
    unfold gudP at hg
    rw [Bool.and_eq_true, decide_eq_true_eq, decide_eq_true_eq] at hg
    exact ⟨p, rfl, hin.1, hin.2, hg.1, hg.2⟩
theorem ords_24 (hv : VB n ks) (hn : n ≤ 4) : (ords n ks).length ≤ 24 := by
  rw [ords_len hv]
  have h2 : cntQ n ks ≤ fac n := by
    have := up_le (n := n) (nx := nxB (briQ n ks)) (cntN n (full n)) (full n) full_lt rfl
    rw [full_cnt] at this; exact this
  have h3 : fac n ≤ fac 4 := fac_mono hn
  have h4 : fac 4 = 24 := by decide
  omega
def depC (n : Nat) (ks : List (Nat × Nat)) (p : Nat × Nat) : Int := if 0 < cntQ n (ks ++ [p]) then (depQ n (ks ++ [p]) : Nat) else 0
def depE (n : Nat) (ks : List (Nat × Nat)) (p : Nat × Nat) : Int := if 0 < cntQ n (ks ++ [p]) then 0 else 16
theorem depW (hv : VB n ks) (h39 : ks.length ≤ 39) (hn : n ≤ 4) (a b : Nat) (ha : a < n) (hb : b < n) (hab : a ≠ b) : Pure Try.prog 42 [bknA n (ks ++ [(a, b)]) none] (.tup [i64 (depC n ks (a, b)), i64 (depE n ks (a, b))]) := by
  have hv2 := vb_snoc hv (by omega) ha hb hab
  have h40 : (ks ++ [(a, b)]).length ≤ 40 := by simp; omega
  unfold depC depE
  rcases acy_or n (ks ++ [(a, b)]) with h | ⟨g, hg⟩
  · rw [if_pos (cnt_acy hv2 h), if_pos (cnt_acy hv2 h)]
    exact depth_g n _ none hv2 h40 h hn
  · rw [if_neg (by rw [cnt_cyc hv2 hg]; omega), if_neg (by rw [cnt_cyc hv2 hg]; omega)]
    have h1 := nilsW (ruledCY_p n (ks ++ [(a, b)]) none hv2 h40 [] none (by simp) rfl (by simp) g hg)
    have := depth_e ⟨n, (ks ++ [(a, b)]).map cP⟩ none (by simp; omega) 16 (by decide) (by rw [bk_eq]; exact h1)
    rwa [bk_eq] at this
theorem dep_p1 (hv : VB n ks) (h39 : ks.length ≤ 39) (hn : n ≤ 4) {a b : Nat} (ha : a < n) (hb : b < n) (hab : a ≠ b) : (depE n ks (a, b) = 0 ∧ 0 < cntQ n (ks ++ [(a, b)]) ∧ depC n ks (a, b) = ((dpQ n (prt (ords n ks) a b) : Nat) : Int)) ∨ (depE n ks (a, b) = 16 ∧ (prt (ords n ks) a b).length = 0) := by
  have hv2 := vb_snoc hv (by omega) ha hb hab
  have e : (prt (ords n ks) a b).length = cntQ n (ks ++ [(a, b)]) := by rw [prt_ords hv hv2, ords_len hv2]
  unfold depE depC
  by_cases h : 0 < cntQ n (ks ++ [(a, b)])
  · exact .inl ⟨if_pos h, h, by rw [if_pos h, depQ, prt_ords hv hv2]⟩
  · exact .inr ⟨if_neg h, by omega⟩
theorem dep_fact (hv : VB n ks) (h39 : ks.length ≤ 39) (hn : n ≤ 4) {a b : Nat} (ha : a < n) (hb : b < n) (hab : a ≠ b) : (depE n ks (a, b) = 0 ∧ 0 ≤ depC n ks (a, b) ∧ depC n ks (a, b) ≤ ((depQ n ks : Nat) : Int)) ∨ depE n ks (a, b) = 16 := by
  rcases dep_p1 hv h39 hn ha hb hab with ⟨h1, _, h2⟩ | ⟨h1, _⟩
  · have := dp_flt hn (prtB a b) _ (ords n ks) (Nat.le_refl _) (ords_24 hv hn) (ords_fit hv)
    exact .inl ⟨h1, by rw [h2]; omega, by rw [h2]; exact Int.ofNat_le.2 this⟩
  · exact .inr h1
theorem dep_gud (hv : VB n ks) (h39 : ks.length ≤ 39) (hn : n ≤ 4) {a b : Nat} (ha : a < n) (hb : b < n) (hab : a ≠ b) (h : dpQ n (prt (ords n ks) a b) < depQ n ks) (h0 : depE n ks (a, b) = 0) : depC n ks (a, b) < ((depQ n ks : Nat) : Int) := by
  rcases dep_p1 hv h39 hn ha hb hab with ⟨h1, _, h2⟩ | ⟨h1, _⟩
  · rw [h2]; omega
  · rw [h1] at h0; exact absurd h0 (by decide)
theorem dep_one (hv : VB n ks) (h39 : ks.length ≤ 39) (ha2 : Acy n ks) (hn : n ≤ 4) {a b : Nat} (ha : a < n) (hb : b < n) (hab : a ≠ b) : (depE n ks (a, b) = 0 ∧ ((depQ n ks : Nat) : Int) ≤ depC n ks (a, b) + 1) ∨ (depE n ks (b, a) = 0 ∧ ((depQ n ks : Nat) : Int) ≤ depC n ks (b, a) + 1) := by
  have hl : 0 < (ords n ks).length := by rw [ords_len hv]; exact cnt_acy hv ha2
  rcases dp_less hn (ords_24 hv hn) (ords_fit hv) hl ha hb hab with ⟨h1, h2⟩ | ⟨h1, h2⟩
  · rcases dep_p1 hv h39 hn ha hb hab with ⟨h3, _, h4⟩ | ⟨_, h4⟩
    · exact .inl ⟨h3, by rw [h4]; unfold depQ; omega⟩
    · omega
  · rcases dep_p1 hv h39 hn hb ha (Ne.symm hab) with ⟨h3, _, h4⟩ | ⟨_, h4⟩
    · exact .inr ⟨h3, by rw [h4]; unfold depQ; omega⟩
    · omega
end
end Go.Proofs.Ythmibifghihdaaa
end

section
namespace Go.Proofs.Ythmibifghihdaaa
set_option maxRecDepth 20000
open Go.AE
theorem deep_a (b : Bk) (c : Option Nat) (hO : Pure Try.prog 47 [bookA b c] (.bool false)) (one two : Nat) (hu1 : one < 256) (hu2 : two < 256) : Pure Try.prog 16 [bookA b c, .int .u8 (one : Nat), .int .u8 (two : Nat)] (.bool true) := by
  refine pure_of_body Try.func16 (c := body Try.f16) rfl (by simp [Try.ntmps16]) fun w0 Φ0 => ?_
  refine W_seq rfl ?_
  refine W_reg rfl ?_
  refine Rv rfl rfl rfl (U_boxF rfl rfl rfl) rfl rfl ?_
  refine Rv rfl rfl rfl (U_assign rfl) rfl rfl ?_
  refine Re rfl ?_
  refine thenQ_n ?_
  refine W_seq rfl ?_
  refine W_seq rfl ?_
  refine W_reg rfl ?_
  refine Rv rfl rfl rfl (U_load2 rfl rfl rfl rfl) rfl rfl ?_
  refine Rv rfl rfl rfl (U_call rfl rfl (hO) rfl) rfl rfl ?_
  refine Rv rfl rfl rfl (U_not rfl) rfl rfl ?_
  refine Rv rfl rfl rfl (U_move rfl) rfl rfl ?_
  refine Rs rfl rfl rfl rfl rfl ?_
  refine Rs rfl rfl rfl rfl rfl ?_
  refine Rs rfl rfl rfl rfl rfl ?_
  refine Rv rfl rfl rfl (U_pick_t rfl rfl) rfl rfl ?_
  refine Rv rfl rfl rfl (U_move rfl) rfl rfl ?_
  refine Rs rfl rfl rfl rfl rfl ?_
  refine Rs rfl rfl rfl rfl rfl ?_
  refine Rs rfl rfl rfl rfl rfl ?_
  refine Rv rfl rfl rfl (U_pick_t rfl rfl) rfl rfl ?_
  refine Rv rfl rfl rfl (U_move rfl) rfl rfl ?_
  refine Rs rfl rfl rfl rfl rfl ?_
  refine Rs rfl rfl rfl rfl rfl ?_
  refine Rs rfl rfl rfl rfl rfl ?_
  refine Rs rfl rfl rfl rfl rfl ?_
  refine Rv rfl rfl rfl (U_pick_t rfl rfl) rfl rfl ?_
  refine Re rfl ?_
  refine thenQ_n ?_
  refine Wcond rfl rfl (fun _ => ?_) (fun h => nomatch h)
  refine W_seq rfl ?_
  refine W_reg rfl ?_
  refine Rv rfl rfl rfl (U_call rfl rfl (works_p) rfl) rfl rfl ?_
  refine Rv rfl rfl rfl (U_assign rfl) rfl rfl ?_
  refine Re rfl ?_
  refine thenQ_n ?_
  refine W_ret rfl ?_
  refine thenQ_r ?_
  exact retL (rlT rfl rl0) rfl rfl
theorem deep_b (n : Nat) (ks : List (Nat × Nat)) (c : Option Nat) (hv : VB n ks) (h40 : ks.length ≤ 40) (hO : Pure Try.prog 47 [bknA n ks c] (.bool true)) (hn2 : n < 2) (one two : Nat) (hu1 : one < 256) (hu2 : two < 256) : Pure Try.prog 16 [bknA n ks c, .int .u8 (one : Nat), .int .u8 (two : Nat)] (.bool true) := by
  have hv' := hv
  obtain ⟨hn1, hn, hkl, hk⟩ := hv'
  have hk2 := vb_lt hv
  refine pure_of_body Try.func16 (c := body Try.f16) rfl (by simp [Try.ntmps16]) fun w0 Φ0 => ?_
  refine W_seq rfl ?_
  refine W_reg rfl ?_
  refine Rv rfl rfl rfl (U_boxF rfl rfl rfl) rfl rfl ?_
  refine Rv rfl rfl rfl (U_assign rfl) rfl rfl ?_
  refine Re rfl ?_
  refine thenQ_n ?_
  refine W_seq rfl ?_
  refine W_seq rfl ?_
  refine W_reg rfl ?_
  refine Rv rfl rfl rfl (U_load2 rfl rfl rfl rfl) rfl rfl ?_
  refine Rv rfl rfl rfl (U_call rfl rfl (hO) rfl) rfl rfl ?_
  refine Rv rfl rfl rfl (U_not rfl) rfl rfl ?_
  refine Rv rfl rfl rfl (U_move rfl) rfl rfl ?_
  refine Rv rfl rfl rfl (U_fieldAddrR rfl) rfl rfl ?_
  refine Rv rfl rfl rfl (U_load1 rfl rfl rfl) rfl rfl ?_
  refine Rv rfl rfl rfl (OpU.toB (U_lss rfl rfl) (decide_eq_true (by omega))) rfl rfl ?_
  refine Rv rfl rfl rfl (U_pick_f rfl rfl) rfl rfl ?_
  refine Rv rfl rfl rfl (U_move rfl) rfl rfl ?_
  refine Rs rfl rfl rfl rfl rfl ?_
  refine Rs rfl rfl rfl rfl rfl ?_
  refine Rs rfl rfl rfl rfl rfl ?_
  refine Rv rfl rfl rfl (U_pick_t rfl rfl) rfl rfl ?_
  refine Rv rfl rfl rfl (U_move rfl) rfl rfl ?_
  refine Rs rfl rfl rfl rfl rfl ?_
  refine Rs rfl rfl rfl rfl rfl ?_
  refine Rs rfl rfl rfl rfl rfl ?_
  refine Rs rfl rfl rfl rfl rfl ?_
  refine Rv rfl rfl rfl (U_pick_t rfl rfl) rfl rfl ?_
  refine Re rfl ?_
  refine thenQ_n ?_
  refine Wcond rfl rfl (fun _ => ?_) (fun h => nomatch h)
  refine W_seq rfl ?_
  refine W_reg rfl ?_
  refine Rv rfl rfl rfl (U_call rfl rfl (works_p) rfl) rfl rfl ?_
  refine Rv rfl rfl rfl (U_assign rfl) rfl rfl ?_
  refine Re rfl ?_
  refine thenQ_n ?_
  refine W_ret rfl ?_
  refine thenQ_r ?_
  exact retL (rlT rfl rl0) rfl rfl
theorem deep_c (n : Nat) (ks : List (Nat × Nat)) (c : Option Nat) (hv : VB n ks) (h40 : ks.length ≤ 40) (hO : Pure Try.prog 47 [bknA n ks c] (.bool true)) (hn2 : ¬ n < 2) (h4 : 4 < n) (one two : Nat) (hu1 : one < 256) (hu2 : two < 256) : Pure Try.prog 16 [bknA n ks c, .int .u8 (one : Nat), .int .u8 (two : Nat)] (.bool true) := by
  have hv' := hv
  obtain ⟨hn1, hn, hkl, hk⟩ := hv'
  have hk2 := vb_lt hv
  refine pure_of_body Try.func16 (c := body Try.f16) rfl (by simp [Try.ntmps16]) fun w0 Φ0 => ?_
  refine W_seq rfl ?_
  refine W_reg rfl ?_
  refine Rv rfl rfl rfl (U_boxF rfl rfl rfl) rfl rfl ?_
  refine Rv rfl rfl rfl (U_assign rfl) rfl rfl ?_
  refine Re rfl ?_
  refine thenQ_n ?_
  refine W_seq rfl ?_
  refine W_seq rfl ?_
  refine W_reg rfl ?_
  refine Rv rfl rfl rfl (U_load2 rfl rfl rfl rfl) rfl rfl ?_
  refine Rv rfl rfl rfl (U_call rfl rfl (hO) rfl) rfl rfl ?_
  refine Rv rfl rfl rfl (U_not rfl) rfl rfl ?_
  refine Rv rfl rfl rfl (U_move rfl) rfl rfl ?_
  refine Rv rfl rfl rfl (U_fieldAddrR rfl) rfl rfl ?_
  refine Rv rfl rfl rfl (U_load1 rfl rfl rfl) rfl rfl ?_
  refine Rv rfl rfl rfl (OpU.toB (U_lss rfl rfl) (decide_eq_false (by omega))) rfl rfl ?_
  refine Rv rfl rfl rfl (U_pick_f rfl rfl) rfl rfl ?_
  refine Rv rfl rfl rfl (U_move rfl) rfl rfl ?_
  refine Rv rfl rfl rfl (U_fieldAddrR rfl) rfl rfl ?_
  refine Rv rfl rfl rfl (U_load1 rfl rfl rfl) rfl rfl ?_
  refine Rv rfl rfl rfl (OpU.toB (U_gtr rfl rfl) (decide_eq_true (by omega))) rfl rfl ?_
  refine Rv rfl rfl rfl (U_pick_f rfl rfl) rfl rfl ?_
  refine Rv rfl rfl rfl (U_move rfl) rfl rfl ?_
  refine Rs rfl rfl rfl rfl rfl ?_
  refine Rs rfl rfl rfl rfl rfl ?_
  refine Rs rfl rfl rfl rfl rfl ?_
  refine Rs rfl rfl rfl rfl rfl ?_
  refine Rv rfl rfl rfl (U_pick_t rfl rfl) rfl rfl ?_
  refine Re rfl ?_
  refine thenQ_n ?_
  refine Wcond rfl rfl (fun _ => ?_) (fun h => nomatch h)
  refine W_seq rfl ?_
  refine W_reg rfl ?_
  refine Rv rfl rfl rfl (U_call rfl rfl (works_p) rfl) rfl rfl ?_
  refine Rv rfl rfl rfl (U_assign rfl) rfl rfl ?_
  refine Re rfl ?_
  refine thenQ_n ?_
  refine W_ret rfl ?_
  refine thenQ_r ?_
  exact retL (rlT rfl rl0) rfl rfl
theorem deep_d (n : Nat) (ks : List (Nat × Nat)) (c : Option Nat) (hv : VB n ks) (h40 : ks.length ≤ 40) (hO : Pure Try.prog 47 [bknA n ks c] (.bool true)) (hn2 : ¬ n < 2) (h4 : ¬ 4 < n) (h39 : 40 ≤ ks.length) (one two : Nat) (hu1 : one < 256) (hu2 : two < 256) : Pure Try.prog 16 [bknA n ks c, .int .u8 (one : Nat), .int .u8 (two : Nat)] (.bool true) := by
  have hv' := hv
  obtain ⟨hn1, hn, hkl, hk⟩ := hv'
  have hk2 := vb_lt hv
  refine pure_of_body Try.func16 (c := body Try.f16) rfl (by simp [Try.ntmps16]) fun w0 Φ0 => ?_
  refine W_seq rfl ?_
  refine W_reg rfl ?_
  refine Rv rfl rfl rfl (U_boxF rfl rfl rfl) rfl rfl ?_
  refine Rv rfl rfl rfl (U_assign rfl) rfl rfl ?_
  refine Re rfl ?_
  refine thenQ_n ?_
  refine W_seq rfl ?_
  refine W_seq rfl ?_
  refine W_reg rfl ?_
  refine Rv rfl rfl rfl (U_load2 rfl rfl rfl rfl) rfl rfl ?_
  refine Rv rfl rfl rfl (U_call rfl rfl (hO) rfl) rfl rfl ?_
  refine Rv rfl rfl rfl (U_not rfl) rfl rfl ?_
  refine Rv rfl rfl rfl (U_move rfl) rfl rfl ?_
  refine Rv rfl rfl rfl (U_fieldAddrR rfl) rfl rfl ?_
  refine Rv rfl rfl rfl (U_load1 rfl rfl rfl) rfl rfl ?_
  refine Rv rfl rfl rfl (OpU.toB (U_lss rfl rfl) (decide_eq_false (by omega))) rfl rfl ?_
  refine Rv rfl rfl rfl (U_pick_f rfl rfl) rfl rfl ?_
  refine Rv rfl rfl rfl (U_move rfl) rfl rfl ?_
  refine Rv rfl rfl rfl (U_fieldAddrR rfl) rfl rfl ?_
  refine Rv rfl rfl rfl (U_load1 rfl rfl rfl) rfl rfl ?_
  refine Rv rfl rfl rfl (OpU.toB (U_gtr rfl rfl) (decide_eq_false (by omega))) rfl rfl ?_
  refine Rv rfl rfl rfl (U_pick_f rfl rfl) rfl rfl ?_
  refine Rv rfl rfl rfl (U_move rfl) rfl rfl ?_
  refine Rv rfl rfl rfl (U_fieldAddrR rfl) rfl rfl ?_
  refine Rv rfl rfl rfl (U_load1 rfl rfl rfl) rfl rfl ?_
  refine Rv rfl rfl rfl (U_lenOf rfl len_ros) rfl rfl ?_
  refine Rv rfl rfl rfl (OpU.toB (U_geq rfl rfl) (decide_eq_true (by omega))) rfl rfl ?_
  refine Rv rfl rfl rfl (U_pick_f rfl rfl) rfl rfl ?_
  refine Re rfl ?_
  refine thenQ_n ?_
  refine Wcond rfl rfl (fun _ => ?_) (fun h => nomatch h)
  refine W_seq rfl ?_
  refine W_reg rfl ?_
  refine Rv rfl rfl rfl (U_call rfl rfl (works_p) rfl) rfl rfl ?_
  refine Rv rfl rfl rfl (U_assign rfl) rfl rfl ?_
  refine Re rfl ?_
  refine thenQ_n ?_
  refine W_ret rfl ?_
  refine thenQ_r ?_
  exact retL (rlT rfl rl0) rfl rfl
def prs (i k x y : Nat) : List (Nat × Nat) := [(i, k), (k, i), (x, y), (y, x)]
theorem prs_in {n i k x y d : Nat} (hi : 0 < d → i < k ∧ k < n) (hx : x < n) (hy : y < n) (hxy : x ≠ y) {j : Nat} (hj : j < (prs i k x y).length) (h : 2 ≤ j ∨ 0 < d) : (prs i k x y)[j].1 < n ∧ (prs i k x y)[j].2 < n ∧ (prs i k x y)[j].1 ≠ (prs i k x y)[j].2 := by
  rcases j with _ | _ | _ | _ | j
  · have := hi (by omega); exact ⟨show i < n by omega, show k < n by omega, show i ≠ k by omega⟩
  · have := hi (by omega); exact ⟨show k < n by omega, show i < n by omega, show k ≠ i by omega⟩
  · exact ⟨hx, hy, hxy⟩
  · exact ⟨hy, hx, Ne.symm hxy⟩
  · exact absurd hj (by simp [prs])
theorem prs_gud {n i k x y d : Nat} {ks : List (Nat × Nat)} (hg1 : 0 < d → depE n ks (i, k) = 0 → depC n ks (i, k) < ((d : Nat) : Int)) (hg2 : 0 < d → depE n ks (k, i) = 0 → depC n ks (k, i) < ((d : Nat) : Int)) {j : Nat} (hj : j < (prs i k x y).length) (h : 0 < d) (h2 : j < 2) (h0 : depE n ks ((prs i k x y)[j].1, (prs i k x y)[j].2) = 0) : depC n ks ((prs i k x y)[j].1, (prs i k x y)[j].2) < ((d : Nat) : Int) := by
  rcases j with _ | _ | j
  · exact hg1 h h0
  · exact hg2 h h0
  · omega
theorem deep_c5 {e c : Int} {j d : Nat} (h1 : (e = 0 ∧ 0 ≤ c ∧ c ≤ ((d : Nat) : Int)) ∨ e = 16) (h2 : 0 < d → j < 2 → e = 0 → c < ((d : Nat) : Int)) (hj : 2 ≤ j ∨ 0 < d) : ¬ (bif decide (e ≠ 0) then decide (e ≠ 16) || decide (e = 0) && (decide (((d : Nat) : Int) < c) || decide (((j : Nat) : Int) < 2) && decide (((d : Nat) : Int) ≤ c)) else decide (e = 0) && (decide (((d : Nat) : Int) < c) || decide (((j : Nat) : Int) < 2) && decide (((d : Nat) : Int) ≤ c))) = true := by
  rcases h1 with ⟨h, h3, h4⟩ | h
  · rw [decide_eq_false (show ¬ e ≠ 0 by omega), decide_eq_true h, decide_eq_false (show ¬ ((d : Nat) : Int) < c by omega)]
    by_cases h5 : j < 2
    · have := h2 (by omega) h5 h
      rw [decide_eq_false (show ¬ ((d : Nat) : Int) ≤ c by omega)]; simp
    · rw [decide_eq_false (show ¬ ((j : Nat) : Int) < 2 by omega)]; simp
  · rw [decide_eq_true (show e ≠ 0 by omega), decide_eq_false (show ¬ e ≠ 16 by omega), decide_eq_false (show ¬ e = 0 by omega)]; simp
theorem deep_end {n i k x y d : Nat} {ks : List (Nat × Nat)} {M : Int} (h1 : (depE n ks (x, y) = 0 ∧ ((d : Nat) : Int) ≤ depC n ks (x, y) + 1 ∧ 0 ≤ depC n ks (x, y)) ∨ (depE n ks (y, x) = 0 ∧ ((d : Nat) : Int) ≤ depC n ks (y, x) + 1 ∧ 0 ≤ depC n ks (y, x))) (hM : ∀ t (ht : t < (prs i k x y).length), 2 ≤ t → t < 4 → depE n ks ((prs i k x y)[t].1, (prs i k x y)[t].2) = 0 → depC n ks ((prs i k x y)[t].1, (prs i k x y)[t].2) ≤ M) : ((d : Nat) : Int) - 1 ≤ M ∧ 0 ≤ M := by
  rcases h1 with ⟨h, h2, h3⟩ | ⟨h, h2, h3⟩
  · have := hM 2 (by simp [prs]) (by omega) (by omega) h
    have : depC n ks (x, y) ≤ M := this
    omega
  · have := hM 3 (by simp [prs]) (by omega) (by omega) h
    have : depC n ks (y, x) ≤ M := this
    omega
theorem deep_e (n : Nat) (ks : List (Nat × Nat)) (c : Option Nat) (hv : VB n ks) (h40 : ks.length ≤ 40) (ha : Acy n ks) (hO : Pure Try.prog 47 [bknA n ks c] (.bool true)) (hn2 : ¬ n < 2) (h4 : ¬ 4 < n) (h39 : ¬ 40 ≤ ks.length) (one two : Nat) (hu1 : one < 256) (hu2 : two < 256) (d m i0 k0 : Nat) (e2 : Int) (hd6 : d ≤ 6) (hm1 : 1 ≤ m) (hmd : m ≤ 1 <<< d) (hdm : d = 0 ↔ m = 1) (he2 : (0 < d ∧ e2 = 0) ∨ (d = 0 ∧ e2 = 5)) (hi : 0 < d → i0 < k0 ∧ k0 < n) (hi0 : i0 < 100) (hk0 : k0 < 100) (hg1 : 0 < d → depE n ks (i0, k0) = 0 → depC n ks (i0, k0) < ((d : Nat) : Int)) (hg2 : 0 < d → depE n ks (k0, i0) = 0 → depC n ks (k0, i0) < ((d : Nat) : Int)) (hfa : ∀ a b, a < n → b < n → a ≠ b → (depE n ks (a, b) = 0 ∧ 0 ≤ depC n ks (a, b) ∧ depC n ks (a, b) ≤ ((d : Nat) : Int)) ∨ depE n ks (a, b) = 16) (hfo : ∀ a b, a < n → b < n → a ≠ b → (depE n ks (a, b) = 0 ∧ ((d : Nat) : Int) ≤ depC n ks (a, b) + 1) ∨ (depE n ks (b, a) = 0 ∧ ((d : Nat) : Int) ≤ depC n ks (b, a) + 1)) (h42 : Pure Try.prog 42 [bknA n ks c] (.tup [i64 (d : Nat), i64 0])) (h44 : Pure Try.prog 44 [bknA n ks c] (.tup [i64 (i0 : Nat), i64 (k0 : Nat), i64 e2])) (h28 : Pure Try.prog 28 [bknA n ks c] (.tup [i64 (m : Nat), i64 0])) : Pure Try.prog 16 [bknA n ks c, .int .u8 (one : Nat), .int .u8 (two : Nat)] (.bool true) := by
  have hv' := hv
  obtain ⟨hn1, hn, hkl, hk⟩ := hv'
  have hk2 := vb_lt hv
  have hx : one % n < n := Nat.mod_lt _ (by omega)
  have hy : (one % n + 1 + two % (n - 1)) % n < n := Nat.mod_lt _ (by omega)
  have hty : two % (n - 1) < n - 1 := Nat.mod_lt _ (by omega)
  have hxy : one % n ≠ (one % n + 1 + two % (n - 1)) % n := xy_ne hx hty
  have hfx : (depE n ks ((one % n), ((one % n + 1 + two % (n - 1)) % n)) = 0 ∧ ((d : Nat) : Int) ≤ depC n ks ((one % n), ((one % n + 1 + two % (n - 1)) % n)) + 1 ∧ 0 ≤ depC n ks ((one % n), ((one % n + 1 + two % (n - 1)) % n))) ∨ (depE n ks (((one % n + 1 + two % (n - 1)) % n), (one % n)) = 0 ∧ ((d : Nat) : Int) ≤ depC n ks (((one % n + 1 + two % (n - 1)) % n), (one % n)) + 1 ∧ 0 ≤ depC n ks (((one % n + 1 + two % (n - 1)) % n), (one % n))) := by
    have h1 := hfa _ _ hx hy hxy
    have h2 := hfa _ _ hy hx (Ne.symm hxy)
    have h3 := hfo _ _ hx hy hxy
    omega
  have h1d : 1 <<< d ≤ 64 := by rw [one_shl]; exact Nat.pow_le_pow_right (n := 2) (by decide) hd6
  refine pure_of_body Try.func16 (c := body Try.f16) rfl (by simp [Try.ntmps16]) fun w0 Φ0 => ?_
  refine W_seq rfl ?_
  refine W_reg rfl ?_
  refine Rv rfl rfl rfl (U_boxF rfl rfl rfl) rfl rfl ?_
  refine Rv rfl rfl rfl (U_assign rfl) rfl rfl ?_
  refine Re rfl ?_
  refine thenQ_n ?_
  refine W_seq rfl ?_
  refine W_seq rfl ?_
  refine W_reg rfl ?_
  refine Rv rfl rfl rfl (U_load2 rfl rfl rfl rfl) rfl rfl ?_
  refine Rv rfl rfl rfl (U_call rfl rfl (hO) rfl) rfl rfl ?_
  refine Rv rfl rfl rfl (U_not rfl) rfl rfl ?_
  refine Rv rfl rfl rfl (U_move rfl) rfl rfl ?_
  refine Rv rfl rfl rfl (U_fieldAddrR rfl) rfl rfl ?_
  refine Rv rfl rfl rfl (U_load1 rfl rfl rfl) rfl rfl ?_
  refine Rv rfl rfl rfl (OpU.toB (U_lss rfl rfl) (decide_eq_false (by omega))) rfl rfl ?_
  refine Rv rfl rfl rfl (U_pick_f rfl rfl) rfl rfl ?_
  refine Rv rfl rfl rfl (U_move rfl) rfl rfl ?_
  refine Rv rfl rfl rfl (U_fieldAddrR rfl) rfl rfl ?_
  refine Rv rfl rfl rfl (U_load1 rfl rfl rfl) rfl rfl ?_
  refine Rv rfl rfl rfl (OpU.toB (U_gtr rfl rfl) (decide_eq_false (by omega))) rfl rfl ?_
  refine Rv rfl rfl rfl (U_pick_f rfl rfl) rfl rfl ?_
  refine Rv rfl rfl rfl (U_move rfl) rfl rfl ?_
  refine Rv rfl rfl rfl (U_fieldAddrR rfl) rfl rfl ?_
  refine Rv rfl rfl rfl (U_load1 rfl rfl rfl) rfl rfl ?_
  refine Rv rfl rfl rfl (U_lenOf rfl len_ros) rfl rfl ?_
  refine Rv rfl rfl rfl (OpU.toB (U_geq rfl rfl) (decide_eq_false (by omega))) rfl rfl ?_
  refine Rv rfl rfl rfl (U_pick_f rfl rfl) rfl rfl ?_
  refine Re rfl ?_
  refine thenQ_n ?_
  refine Wcond rfl rfl (fun h => nomatch h) (fun _ => ?_)
  refine W_skip rfl ?_
  refine thenQ_n ?_
  refine W_seq rfl ?_
  refine W_reg rfl ?_
  refine Rv rfl rfl rfl (U_load2 rfl rfl rfl rfl) rfl rfl ?_
  refine Rv rfl rfl rfl (U_call rfl rfl (h42) rfl) rfl rfl ?_
  refine Rv rfl rfl rfl (U_move rfl) rfl rfl ?_
  refine Rv rfl rfl rfl (U_extract rfl rfl) rfl rfl ?_
  refine Rv rfl rfl rfl (U_extract rfl rfl) rfl rfl ?_
  refine Rv rfl rfl rfl (U_assign rfl) rfl rfl ?_
  refine Rv rfl rfl rfl (U_assign rfl) rfl rfl ?_
  refine Re rfl ?_
  refine thenQ_n ?_
  refine W_seq rfl ?_
  refine W_reg rfl ?_
  refine Rv rfl rfl rfl (U_load2 rfl rfl rfl rfl) rfl rfl ?_
  refine Rv rfl rfl rfl (U_call rfl rfl (h44) rfl) rfl rfl ?_
  refine Rv rfl rfl rfl (U_move rfl) rfl rfl ?_
  refine Rv rfl rfl rfl (U_extract rfl rfl) rfl rfl ?_
  refine Rv rfl rfl rfl (U_extract rfl rfl) rfl rfl ?_
  refine Rv rfl rfl rfl (U_extract rfl rfl) rfl rfl ?_
  refine Rv rfl rfl rfl (U_assign rfl) rfl rfl ?_
  refine Rv rfl rfl rfl (U_assign rfl) rfl rfl ?_
  refine Rv rfl rfl rfl (U_assign rfl) rfl rfl ?_
  refine Re rfl ?_
  refine thenQ_n ?_
  refine W_seq rfl ?_
  refine W_reg rfl ?_
  refine Rv rfl rfl rfl (U_load2 rfl rfl rfl rfl) rfl rfl ?_
  refine Rv rfl rfl rfl (U_call rfl rfl (h28) rfl) rfl rfl ?_
  refine Rv rfl rfl rfl (U_move rfl) rfl rfl ?_
  refine Rv rfl rfl rfl (U_extract rfl rfl) rfl rfl ?_
  refine Rv rfl rfl rfl (U_extract rfl rfl) rfl rfl ?_
  refine Rv rfl rfl rfl (U_assign rfl) rfl rfl ?_
  refine Rv rfl rfl rfl (U_assign rfl) rfl rfl ?_
  refine Re rfl ?_
  refine thenQ_n ?_
  refine W_seq rfl ?_
  refine W_seq rfl ?_
  refine Wjoin ⟨[(1, .int .u8 ((one : Nat) : Int)), (2, .int .u8 ((two : Nat) : Int)), (3, .rop [i64 ((n : Nat) : Int), .ros (ks.flatMap lkN) ks.length c] 0), (7, i64 ((d : Nat) : Int)), (9, i64 ((i0 : Nat) : Int)), (10, i64 ((k0 : Nat) : Int)), (102, .bool ((decide (e2 ≠ 0)) && (decide (e2 ≠ 5))))], [], 0, []⟩ ?_ ?_
  · refine W_reg rfl ?_
    refine Rv rfl rfl rfl (U_move rfl) rfl rfl ?_
    refine Rv rfl rfl rfl (U_neq rfl rfl) rfl rfl ?_
    refine Rv rfl rfl rfl (U_move rfl) rfl rfl ?_
    refine Rv rfl rfl rfl (U_move rfl) rfl rfl ?_
    refine Rv rfl rfl rfl (U_neq rfl rfl) rfl rfl ?_
    refine Rv rfl rfl rfl (U_pick_f rfl rfl) rfl rfl ?_
    refine Rv rfl rfl rfl (U_move rfl) rfl rfl ?_
    refine Rv rfl rfl rfl (U_move rfl) rfl rfl ?_
    refine Rv rfl rfl rfl (OpU.toB (U_lss rfl rfl) (decide_eq_false (by omega))) rfl rfl ?_
    refine Rv rfl rfl rfl (U_pick_f rfl rfl) rfl rfl ?_
    refine Rv rfl rfl rfl (U_move rfl) rfl rfl ?_
    refine Rv rfl rfl rfl (U_move rfl) rfl rfl ?_
    refine Rv rfl rfl rfl (OpU.toB (U_gtr rfl rfl) (decide_eq_false (by omega))) rfl rfl ?_
    refine Rv rfl rfl rfl (U_pick_f rfl rfl) rfl rfl ?_
    refine Rv rfl rfl rfl (U_move rfl) rfl rfl ?_
    refine Rv rfl rfl rfl (U_move rfl) rfl rfl ?_
    refine Rv rfl rfl rfl (OpU.toB (U_lss rfl rfl) (decide_eq_false (by omega))) rfl rfl ?_
    refine Rv rfl rfl rfl (U_pick_f rfl rfl) rfl rfl ?_
    refine Rv rfl rfl rfl (U_move rfl) rfl rfl ?_
    refine Rv rfl rfl rfl (U_move rfl) rfl rfl ?_
    refine Rv rfl rfl rfl (U_move rfl) rfl rfl ?_
    refine Rv rfl rfl rfl (U_shl rfl rfl (by omega) (shlN (n := 1) (i := d) (by omega) (by omega))) rfl rfl ?_
    refine Rv rfl rfl rfl (OpU.toB (U_gtr rfl rfl) (decide_eq_false (by omega))) rfl rfl ?_
    refine Rv rfl rfl rfl (U_pick_f rfl rfl) rfl rfl ?_
    refine Rv rfl rfl rfl (U_move rfl) rfl rfl ?_
    refine Rv rfl rfl rfl (U_move rfl) rfl rfl ?_
    refine Rv rfl rfl rfl (U_eql rfl rfl) rfl rfl ?_
    refine Rv rfl rfl rfl (U_move rfl) rfl rfl ?_
    refine Rv rfl rfl rfl (U_eql rfl rfl) rfl rfl ?_
    refine Rv rfl rfl rfl (OpU.toB (U_neqB rfl rfl) (decide_eq_false (by simp only [ne_eq, Decidable.not_not, decide_eq_decide]; omega))) rfl rfl ?_
    refine Rv rfl rfl rfl (U_pick_f rfl rfl) rfl rfl ?_
    refine Rv rfl rfl rfl (U_move rfl) rfl rfl ?_
    refine Rv rfl rfl rfl (U_move rfl) rfl rfl ?_
    refine Rv rfl rfl rfl (U_eql rfl rfl) rfl rfl ?_
    refine Rv rfl rfl rfl (U_move rfl) rfl rfl ?_
    refine Rv rfl rfl rfl (U_gtr rfl rfl) rfl rfl ?_
    refine Rv rfl rfl rfl (OpU.toB (U_neqB rfl rfl) (decide_eq_false (by simp only [ne_eq, Decidable.not_not, decide_eq_decide]; omega))) rfl rfl ?_
    refine Rv rfl rfl rfl (U_pick_f rfl rfl) rfl rfl ?_
    refine Rv rfl rfl rfl (U_move rfl) rfl rfl ?_
    refine Rv rfl rfl rfl (U_move rfl) rfl rfl ?_
    refine Rv rfl rfl rfl (U_neq rfl rfl) rfl rfl ?_
    refine Rv rfl rfl rfl (U_move rfl) rfl rfl ?_
    refine Rsplit (t := 98) rfl (fun hg1 => ?_) (fun hg1 => ?_)
    · rw [hg1]
      have hg1' : e2 ≠ 0 := of_decide_eq_true hg1
      refine Rv rfl rfl rfl (U_move rfl) rfl rfl ?_
      refine Rv rfl rfl rfl (U_neq rfl rfl) rfl rfl ?_
      refine Rv rfl rfl rfl (U_pick_t rfl rfl) rfl rfl ?_
      refine Rv rfl rfl rfl (U_pick_f rfl rfl) rfl rfl ?_
      refine Re rfl ?_
      exact joinTo id ⟨eD rfl rfl, eD rfl rfl, eD rfl rfl, eD rfl rfl, eD rfl rfl, eD rfl rfl, eD rfl rfl, trivial⟩ trivial rfl rfl rfl rfl (fun _ _ => rfl)
    · rw [hg1]
      have hg1' : ¬ (e2 ≠ 0) := of_decide_eq_false hg1
      refine Rs rfl rfl rfl rfl rfl ?_
      refine Rs rfl rfl rfl rfl rfl ?_
      refine Rv rfl rfl rfl (U_pick_f rfl rfl) rfl rfl ?_
      refine Rv rfl rfl rfl (U_pick_f rfl rfl) rfl rfl ?_
      refine Re rfl ?_
      exact joinTo id ⟨eD rfl rfl, eD rfl rfl, eD rfl rfl, eD rfl rfl, eD rfl rfl, eD rfl rfl, eD rfl rfl, trivial⟩ trivial rfl rfl rfl rfl (fun _ _ => rfl)
  refine thenQ_n ?_
  refine Wcond rfl rfl (fun hc1 => absurd hc1 (by rcases he2 with h | h <;> simp [h.2])) (fun hc1 => ?_)
  refine W_skip rfl ?_
  refine thenQ_n ?_
  refine W_seq rfl ?_
  refine W_seq rfl ?_
  refine Wjoin ⟨[(1, .int .u8 ((one : Nat) : Int)), (2, .int .u8 ((two : Nat) : Int)), (3, .rop [i64 ((n : Nat) : Int), .ros (ks.flatMap lkN) ks.length c] 0), (7, i64 ((d : Nat) : Int)), (9, i64 ((i0 : Nat) : Int)), (10, i64 ((k0 : Nat) : Int)), (119, .bool ((decide (0 < ((d : Nat) : Int))) && ((decide (((i0 : Nat) : Int) < 0)) || ((decide (((k0 : Nat) : Int) ≤ ((i0 : Nat) : Int))) || (decide (((n : Nat) : Int) ≤ ((k0 : Nat) : Int)))))))], [], 0, []⟩ ?_ ?_
  · refine W_reg rfl ?_
    refine Rv rfl rfl rfl (U_move rfl) rfl rfl ?_
    refine Rv rfl rfl rfl (U_gtr rfl rfl) rfl rfl ?_
    refine Rv rfl rfl rfl (U_move rfl) rfl rfl ?_
    refine Rsplit (t := 105) rfl (fun hg2 => ?_) (fun hg2 => ?_)
    · rw [hg2]
      have hg2' : 0 < ((d : Nat) : Int) := of_decide_eq_true hg2
      refine Rv rfl rfl rfl (U_move rfl) rfl rfl ?_
      refine Rv rfl rfl rfl (U_lss rfl rfl) rfl rfl ?_
      refine Rv rfl rfl rfl (U_move rfl) rfl rfl ?_
      refine Rsplit (t := 108) rfl (fun hg3 => ?_) (fun hg3 => ?_)
      · rw [hg3]
        have hg3' : ((i0 : Nat) : Int) < 0 := of_decide_eq_true hg3
        refine Rs rfl rfl rfl rfl rfl ?_
        refine Rs rfl rfl rfl rfl rfl ?_
        refine Rs rfl rfl rfl rfl rfl ?_
        refine Rv rfl rfl rfl (U_pick_t rfl rfl) rfl rfl ?_
        refine Rv rfl rfl rfl (U_move rfl) rfl rfl ?_
        refine Rs rfl rfl rfl rfl rfl ?_
        refine Rs rfl rfl rfl rfl rfl ?_
        refine Rs rfl rfl rfl rfl rfl ?_
        refine Rs rfl rfl rfl rfl rfl ?_
        refine Rv rfl rfl rfl (U_pick_t rfl rfl) rfl rfl ?_
        refine Rv rfl rfl rfl (U_pick_t rfl rfl) rfl rfl ?_
        refine Re rfl ?_
        exact joinTo id ⟨eD rfl rfl, eD rfl rfl, eD rfl rfl, eD rfl rfl, eD rfl rfl, eD rfl rfl, eD rfl rfl, trivial⟩ trivial rfl rfl rfl rfl (fun _ _ => rfl)
      · rw [hg3]
        have hg3' : ¬ (((i0 : Nat) : Int) < 0) := of_decide_eq_false hg3
        refine Rv rfl rfl rfl (U_move rfl) rfl rfl ?_
        refine Rv rfl rfl rfl (U_move rfl) rfl rfl ?_
        refine Rv rfl rfl rfl (U_geq rfl rfl) rfl rfl ?_
        refine Rv rfl rfl rfl (U_pick_f rfl rfl) rfl rfl ?_
        refine Rv rfl rfl rfl (U_move rfl) rfl rfl ?_
        refine Rsplit (t := 113) rfl (fun hg4 => ?_) (fun hg4 => ?_)
        · rw [hg4]
          have hg4' : ((k0 : Nat) : Int) ≤ ((i0 : Nat) : Int) := of_decide_eq_true hg4
          refine Rs rfl rfl rfl rfl rfl ?_
          refine Rs rfl rfl rfl rfl rfl ?_
          refine Rs rfl rfl rfl rfl rfl ?_
          refine Rs rfl rfl rfl rfl rfl ?_
          refine Rv rfl rfl rfl (U_pick_t rfl rfl) rfl rfl ?_
          refine Rv rfl rfl rfl (U_pick_t rfl rfl) rfl rfl ?_
          refine Re rfl ?_
          exact joinTo id ⟨eD rfl rfl, eD rfl rfl, eD rfl rfl, eD rfl rfl, eD rfl rfl, eD rfl rfl, eD rfl rfl, trivial⟩ trivial rfl rfl rfl rfl (fun _ _ => rfl)
        · rw [hg4]
          have hg4' : ¬ (((k0 : Nat) : Int) ≤ ((i0 : Nat) : Int)) := of_decide_eq_false hg4
          refine Rv rfl rfl rfl (U_move rfl) rfl rfl ?_
          refine Rv rfl rfl rfl (U_fieldAddrR rfl) rfl rfl ?_
          refine Rv rfl rfl rfl (U_load1 rfl rfl rfl) rfl rfl ?_
          refine Rv rfl rfl rfl (U_geq rfl rfl) rfl rfl ?_
          refine Rv rfl rfl rfl (U_pick_f rfl rfl) rfl rfl ?_
          refine Rv rfl rfl rfl (U_pick_t rfl rfl) rfl rfl ?_
          refine Re rfl ?_
          exact joinTo id ⟨eD rfl rfl, eD rfl rfl, eD rfl rfl, eD rfl rfl, eD rfl rfl, eD rfl rfl, eD rfl rfl, trivial⟩ trivial rfl rfl rfl rfl (fun _ _ => rfl)
    · rw [hg2]
      have hg2' : ¬ (0 < ((d : Nat) : Int)) := of_decide_eq_false hg2
      refine Rs rfl rfl rfl rfl rfl ?_
      refine Rs rfl rfl rfl rfl rfl ?_
      refine Rs rfl rfl rfl rfl rfl ?_
      refine Rs rfl rfl rfl rfl rfl ?_
      refine Rs rfl rfl rfl rfl rfl ?_
      refine Rs rfl rfl rfl rfl rfl ?_
      refine Rs rfl rfl rfl rfl rfl ?_
      refine Rs rfl rfl rfl rfl rfl ?_
      refine Rs rfl rfl rfl rfl rfl ?_
      refine Rs rfl rfl rfl rfl rfl ?_
      refine Rs rfl rfl rfl rfl rfl ?_
      refine Rs rfl rfl rfl rfl rfl ?_
      refine Rs rfl rfl rfl rfl rfl ?_
      refine Rv rfl rfl rfl (U_pick_f rfl rfl) rfl rfl ?_
      refine Re rfl ?_
      exact joinTo id ⟨eD rfl rfl, eD rfl rfl, eD rfl rfl, eD rfl rfl, eD rfl rfl, eD rfl rfl, eD rfl rfl, trivial⟩ trivial rfl rfl rfl rfl (fun _ _ => rfl)
  refine thenQ_n ?_
  refine Wcond rfl rfl (fun hc2 => absurd hc2 (by simp; omega)) (fun hc2 => ?_)
  refine W_skip rfl ?_
  refine thenQ_n ?_
  refine W_seq rfl ?_
  refine W_reg rfl ?_
  refine Rv rfl rfl rfl (U_move rfl) rfl rfl ?_
  refine Rv rfl rfl rfl (U_convInt (by rfl) rfl (wr_i64 (by omega) (by omega))) rfl rfl ?_
  refine Rv rfl rfl rfl (U_fieldAddrR rfl) rfl rfl ?_
  refine Rv rfl rfl rfl (U_load1 rfl rfl rfl) rfl rfl ?_
  refine Rv rfl rfl rfl (U_rem (c := ((one % n : Nat) : Int)) rfl rfl (by omega) (tmodN _ _)) rfl rfl ?_
  refine Rv rfl rfl rfl (U_assign rfl) rfl rfl ?_
  refine Re rfl ?_
  refine thenQ_n ?_
  refine W_seq rfl ?_
  refine Wdraw rfl (by kernel_rfl) (by kernel_rfl) ?_
  refine Dv rfl rfl rfl (U_move rfl) rfl rfl ?_
  refine Dv rfl rfl rfl (U_add rfl rfl (w64e (m := ((one % n + 1 : Nat) : Int)) (by omega) (by omega) (by omega))) rfl rfl ?_
  refine Dv rfl rfl rfl (U_move rfl) rfl rfl ?_
  refine Dv rfl rfl rfl (U_convInt (by rfl) rfl (wr_i64 (by omega) (by omega))) rfl rfl ?_
  refine Dv rfl rfl rfl (U_fieldAddrR rfl) rfl rfl ?_
  refine Dv rfl rfl rfl (U_load1 rfl rfl rfl) rfl rfl ?_
  refine Dv rfl rfl rfl (U_sub rfl rfl (w64e (m := ((n - 1 : Nat) : Int)) (by omega) (by omega) (by omega))) rfl rfl ?_
  refine Dv rfl rfl rfl (U_rem (c := ((two % (n - 1) : Nat) : Int)) rfl rfl (by omega) (tmodN _ _)) rfl rfl ?_
  refine Dv rfl rfl rfl (U_add rfl rfl (w64e (m := ((one % n + 1 + two % (n - 1) : Nat) : Int)) (by omega) (by omega) (by omega))) rfl rfl ?_
  refine Dv rfl rfl rfl (U_fieldAddrR rfl) rfl rfl ?_
  refine Dv rfl rfl rfl (U_load1 rfl rfl rfl) rfl rfl ?_
  refine Dv rfl rfl rfl (U_rem (c := (((one % n + 1 + two % (n - 1)) % n : Nat) : Int)) rfl rfl (by omega) (tmodN _ _)) rfl rfl ?_
  refine Dv rfl rfl rfl (U_assign rfl) rfl rfl ?_
  refine Dr.nil rfl ?_
  refine thenQ_n ?_
  refine W_seq rfl ?_
  refine W_reg rfl ?_
  refine Rv rfl rfl rfl (U_move rfl) rfl rfl ?_
  refine Rv rfl rfl rfl (U_move rfl) rfl rfl ?_
  refine Rv rfl rfl rfl (U_build rfl rfl) rfl rfl ?_
  refine Rv rfl rfl rfl (U_move rfl) rfl rfl ?_
  refine Rv rfl rfl rfl (U_move rfl) rfl rfl ?_
  refine Rv rfl rfl rfl (U_build rfl rfl) rfl rfl ?_
  refine Rv rfl rfl rfl (U_move rfl) rfl rfl ?_
  refine Rv rfl rfl rfl (U_move rfl) rfl rfl ?_
  refine Rv rfl rfl rfl (U_build rfl rfl) rfl rfl ?_
  refine Rv rfl rfl rfl (U_move rfl) rfl rfl ?_
  refine Rv rfl rfl rfl (U_move rfl) rfl rfl ?_
  refine Rv rfl rfl rfl (U_build rfl rfl) rfl rfl ?_
  refine Rv rfl rfl rfl (U_buildSliceF (by rfl) (by decide) rfl rfl rfl) rfl rfl ?_
  refine Rv rfl rfl rfl (U_assign rfl) rfl rfl ?_
  refine Re rfl ?_
  refine thenQ_n ?_
  refine W_seq rfl ?_
  refine W_reg rfl ?_
  refine Rv rfl rfl rfl (U_assign rfl) rfl rfl ?_
  refine Re rfl ?_
  refine thenQ_n ?_
  refine W_seq rfl ?_
  refine W_seq rfl ?_
  refine W_reg rfl ?_
  refine Rv rfl rfl rfl (U_assign rfl) rfl rfl ?_
  refine Re rfl ?_
  refine thenQ_n ?_
  refine W_block rfl ?_
  refine LoopTo (T' := [(3, .rop [i64 ((n : Nat) : Int), .ros (ks.flatMap lkN) ks.length c] 0), (7, i64 ((d : Nat) : Int)), (16, .ros ((prs i0 k0 (one % n) ((one % n + 1 + two % (n - 1)) % n)).flatMap lkN) ((prs i0 k0 (one % n) ((one % n + 1 + two % (n - 1)) % n)).length) (some 4)), (17, i64 (-1)), (18, i64 ((0 : Nat) : Int))]) (H' := []) (n := 0) rfl (fun mz_ qz_ => ∃ (j : Nat) (M : Int), j ≤ 4 ∧ -1 ≤ M ∧ (∀ t (ht : t < (prs i0 k0 (one % n) ((one % n + 1 + two % (n - 1)) % n)).length), 2 ≤ t → t < j → depE n ks ((prs i0 k0 (one % n) ((one % n + 1 + two % (n - 1)) % n))[t].1, (prs i0 k0 (one % n) ((one % n + 1 + two % (n - 1)) % n))[t].2) = 0 → depC n ks ((prs i0 k0 (one % n) ((one % n + 1 + two % (n - 1)) % n))[t].1, (prs i0 k0 (one % n) ((one % n + 1 + two % (n - 1)) % n))[t].2) ≤ M) ∧ mz_ = 4 - j ∧ qz_ = ⟨[(3, .rop [i64 ((n : Nat) : Int), .ros (ks.flatMap lkN) ks.length c] 0), (7, i64 ((d : Nat) : Int)), (16, .ros ((prs i0 k0 (one % n) ((one % n + 1 + two % (n - 1)) % n)).flatMap lkN) ((prs i0 k0 (one % n) ((one % n + 1 + two % (n - 1)) % n)).length) (some 4)), (17, i64 M), (18, i64 ((j : Nat) : Int))], [], 0, []⟩) ⟨0, -1, (by omega), (by omega), (fun t _ h1 h2 => absurd h2 (by omega)), rfl, rfl⟩ id ⟨eD rfl rfl, eD rfl rfl, eD rfl rfl, eD rfl rfl, eD rfl rfl, trivial⟩ trivial rfl rfl rfl rfl (fun _ _ => rfl) ?_
  rintro _ _ ⟨j, M, hi0_0, hi0_1, hi0_2, rfl, rfl⟩
  refine W_seq rfl ?_
  refine W_seq rfl ?_
  refine W_reg rfl ?_
  refine Rv rfl rfl rfl (U_move rfl) rfl rfl ?_
  refine Rv rfl rfl rfl (U_lss rfl rfl) rfl rfl ?_
  refine Re rfl ?_
  refine thenQ_n ?_
  refine WcondP rfl rfl (fun hc3 => ?_) (fun hc3 => ?_)
  · have hj4 : j < 4 := by omega
    have hjl : j < (prs i0 k0 (one % n) ((one % n + 1 + two % (n - 1)) % n)).length := hj4
    refine W_skip rfl ?_
    refine thenQ_n ?_
    refine W_seq rfl ?_
    refine W_block rfl ?_
    refine W_seq rfl ?_
    refine W_seq rfl ?_
    refine Wjoin ⟨[(3, .rop [i64 ((n : Nat) : Int), .ros (ks.flatMap lkN) ks.length c] 0), (7, i64 ((d : Nat) : Int)), (16, .ros ((prs i0 k0 (one % n) ((one % n + 1 + two % (n - 1)) % n)).flatMap lkN) ((prs i0 k0 (one % n) ((one % n + 1 + two % (n - 1)) % n)).length) (some 4)), (17, i64 M), (18, i64 ((j : Nat) : Int)), (159, .bool ((decide (((j : Nat) : Int) < 2)) && (decide (((d : Nat) : Int) = 0))))], [], 0, []⟩ ?_ ?_
    · refine W_reg rfl ?_
      refine Rv rfl rfl rfl (U_move rfl) rfl rfl ?_
      refine Rv rfl rfl rfl (U_lss rfl rfl) rfl rfl ?_
      refine Rv rfl rfl rfl (U_move rfl) rfl rfl ?_
      refine Rsplit (t := 156) rfl (fun hg5 => ?_) (fun hg5 => ?_)
      · rw [hg5]
        have hg5' : ((j : Nat) : Int) < 2 := of_decide_eq_true hg5
        refine Rv rfl rfl rfl (U_move rfl) rfl rfl ?_
        refine Rv rfl rfl rfl (U_eql rfl rfl) rfl rfl ?_
        refine Rv rfl rfl rfl (U_pick_t rfl rfl) rfl rfl ?_
        refine Re rfl ?_
        exact joinTo id ⟨eD rfl rfl, eD rfl rfl, eD rfl rfl, eD rfl rfl, eD rfl rfl, eD rfl rfl, trivial⟩ trivial rfl rfl rfl rfl (fun _ _ => rfl)
      · rw [hg5]
        have hg5' : ¬ (((j : Nat) : Int) < 2) := of_decide_eq_false hg5
        refine Rs rfl rfl rfl rfl rfl ?_
        refine Rs rfl rfl rfl rfl rfl ?_
        refine Rv rfl rfl rfl (U_pick_f rfl rfl) rfl rfl ?_
        refine Re rfl ?_
        exact joinTo id ⟨eD rfl rfl, eD rfl rfl, eD rfl rfl, eD rfl rfl, eD rfl rfl, eD rfl rfl, trivial⟩ trivial rfl rfl rfl rfl (fun _ _ => rfl)
    refine thenQ_n ?_
    refine Wcond rfl rfl (fun hc4 => ?_) (fun hc4 => ?_)
    · have hj2 : j < 2 := by simp at hc4; omega
      refine W_exit rfl ?_
      refine thenQ_x ?_
      refine blkQ_x rfl ?_
      refine thenQ_n ?_
      refine W_reg rfl ?_
      refine Rv rfl rfl rfl (U_move rfl) rfl rfl ?_
      refine Rv rfl rfl rfl (U_add rfl rfl (w64e (m := ((j + 1 : Nat) : Int)) (by omega) (by omega) (by omega))) rfl rfl ?_
      refine Rv rfl rfl rfl (U_assign rfl) rfl rfl ?_
      refine Re rfl ?_
      refine thenQ_n ?_
      exact againTo (T' := [(3, .rop [i64 ((n : Nat) : Int), .ros (ks.flatMap lkN) ks.length c] 0), (7, i64 ((d : Nat) : Int)), (16, .ros ((prs i0 k0 (one % n) ((one % n + 1 + two % (n - 1)) % n)).flatMap lkN) ((prs i0 k0 (one % n) ((one % n + 1 + two % (n - 1)) % n)).length) (some 4)), (17, i64 _), (18, i64 (((j + 1) : Nat) : Int))]) (H' := []) (n := 0) (4 - (j + 1)) ⟨j + 1, _, (by omega), (by omega), (by intro t ht h2 h3 h4; rcases Nat.lt_succ_iff_lt_or_eq.1 h3 with h | rfl; have := hi0_2 t ht h2 h h4; omega; first | omega | exact absurd ⟨h2, h4⟩ hq6), rfl, rfl⟩ (by omega) id ⟨eD rfl rfl, eD rfl rfl, eD rfl rfl, eD rfl rfl, eD rfl rfl, trivial⟩ trivial rfl rfl rfl rfl (fun _ _ => rfl)
    · have hc4' := Bool.eq_false_iff.1 hc4
      have hj2 : 2 ≤ j ∨ 0 < d := by simp at hc4; omega
      obtain ⟨hp1, hp2, hp3⟩ := prs_in hi hx hy hxy hjl hj2
      have hf1 := hfa _ _ hp1 hp2 hp3
      have hf2 := prs_gud hg1 hg2 hjl
      refine W_skip rfl ?_
      refine thenQ_n ?_
      refine W_seq rfl ?_
      refine Wdraw rfl (by kernel_rfl) (by kernel_rfl) ?_
      refine Dv rfl rfl rfl (U_load2 rfl rfl rfl rfl) rfl rfl ?_
      refine Dv rfl rfl rfl (U_move rfl) rfl rfl ?_
      refine Dv rfl rfl rfl (U_move rfl) rfl rfl ?_
      have hx6 : j < (prs i0 k0 (one % n) ((one % n + 1 + two % (n - 1)) % n)).length := by omega
      refine Dv rfl rfl rfl (U_indexR (j := j) rfl rfl rfl hx6) rfl rfl ?_
      refine Dv rfl rfl rfl (U_indexAR (j := 0) rfl rfl rfl (by decide)) rfl rfl ?_
      refine Dv rfl rfl rfl (U_load1 rfl rfl (lkH0 hx6)) rfl rfl ?_
      refine Dv rfl rfl rfl (U_move rfl) rfl rfl ?_
      refine Dv rfl rfl rfl (U_move rfl) rfl rfl ?_
      refine Dv rfl rfl rfl (U_indexR (j := j) rfl rfl rfl hx6) rfl rfl ?_
      refine Dv rfl rfl rfl (U_indexAR (j := 1) rfl rfl rfl (by decide)) rfl rfl ?_
      refine Dv rfl rfl rfl (U_load1 rfl rfl (lkH1 hx6)) rfl rfl ?_
      refine Dv rfl rfl rfl (U_call rfl rfl (withR_p n ks c (by omega) (((prs i0 k0 (one % n) ((one % n + 1 + two % (n - 1)) % n))[j]).1) (((prs i0 k0 (one % n) ((one % n + 1 + two % (n - 1)) % n))[j]).2)) rfl) rfl rfl ?_
      refine Dv rfl rfl rfl (U_call rfl rfl (depW hv (by omega) (by omega) (((prs i0 k0 (one % n) ((one % n + 1 + two % (n - 1)) % n))[j]).1) (((prs i0 k0 (one % n) ((one % n + 1 + two % (n - 1)) % n))[j]).2) hp1 hp2 hp3) rfl) rfl rfl ?_
      refine Dv rfl rfl rfl (U_move rfl) rfl rfl ?_
      refine Dv rfl rfl rfl (U_extract rfl rfl) rfl rfl ?_
      refine Dv rfl rfl rfl (U_extract rfl rfl) rfl rfl ?_
      refine Dv rfl rfl rfl (U_assign rfl) rfl rfl ?_
      refine Dv rfl rfl rfl (U_assign rfl) rfl rfl ?_
      refine Dr.nil rfl ?_
      refine thenQ_n ?_
      refine W_seq rfl ?_
      refine W_seq rfl ?_
      refine Wjoin ⟨[(3, .rop [i64 ((n : Nat) : Int), .ros (ks.flatMap lkN) ks.length c] 0), (7, i64 ((d : Nat) : Int)), (16, .ros ((prs i0 k0 (one % n) ((one % n + 1 + two % (n - 1)) % n)).flatMap lkN) ((prs i0 k0 (one % n) ((one % n + 1 + two % (n - 1)) % n)).length) (some 4)), (17, i64 M), (18, i64 ((j : Nat) : Int)), (19, i64 (depC n ks ((((prs i0 k0 (one % n) ((one % n + 1 + two % (n - 1)) % n))[j]).1), (((prs i0 k0 (one % n) ((one % n + 1 + two % (n - 1)) % n))[j]).2)))), (20, i64 (depE n ks ((((prs i0 k0 (one % n) ((one % n + 1 + two % (n - 1)) % n))[j]).1), (((prs i0 k0 (one % n) ((one % n + 1 + two % (n - 1)) % n))[j]).2)))), (199, .bool (bif (decide ((depE n ks ((((prs i0 k0 (one % n) ((one % n + 1 + two % (n - 1)) % n))[j]).1), (((prs i0 k0 (one % n) ((one % n + 1 + two % (n - 1)) % n))[j]).2))) ≠ 0)) then ((decide ((depE n ks ((((prs i0 k0 (one % n) ((one % n + 1 + two % (n - 1)) % n))[j]).1), (((prs i0 k0 (one % n) ((one % n + 1 + two % (n - 1)) % n))[j]).2))) ≠ 16)) || ((decide ((depE n ks ((((prs i0 k0 (one % n) ((one % n + 1 + two % (n - 1)) % n))[j]).1), (((prs i0 k0 (one % n) ((one % n + 1 + two % (n - 1)) % n))[j]).2))) = 0)) && ((decide (((d : Nat) : Int) < (depC n ks ((((prs i0 k0 (one % n) ((one % n + 1 + two % (n - 1)) % n))[j]).1), (((prs i0 k0 (one % n) ((one % n + 1 + two % (n - 1)) % n))[j]).2))))) || ((decide (((j : Nat) : Int) < 2)) && (decide (((d : Nat) : Int) ≤ (depC n ks ((((prs i0 k0 (one % n) ((one % n + 1 + two % (n - 1)) % n))[j]).1), (((prs i0 k0 (one % n) ((one % n + 1 + two % (n - 1)) % n))[j]).2))))))))) else ((decide ((depE n ks ((((prs i0 k0 (one % n) ((one % n + 1 + two % (n - 1)) % n))[j]).1), (((prs i0 k0 (one % n) ((one % n + 1 + two % (n - 1)) % n))[j]).2))) = 0)) && ((decide (((d : Nat) : Int) < (depC n ks ((((prs i0 k0 (one % n) ((one % n + 1 + two % (n - 1)) % n))[j]).1), (((prs i0 k0 (one % n) ((one % n + 1 + two % (n - 1)) % n))[j]).2))))) || ((decide (((j : Nat) : Int) < 2)) && (decide (((d : Nat) : Int) ≤ (depC n ks ((((prs i0 k0 (one % n) ((one % n + 1 + two % (n - 1)) % n))[j]).1), (((prs i0 k0 (one % n) ((one % n + 1 + two % (n - 1)) % n))[j]).2))))))))))], [], 0, []⟩ ?_ ?_
      · refine W_reg rfl ?_
        refine Rv rfl rfl rfl (U_move rfl) rfl rfl ?_
        refine Rv rfl rfl rfl (U_neq rfl rfl) rfl rfl ?_
        refine Rv rfl rfl rfl (U_move rfl) rfl rfl ?_
        refine Rsplit (t := 178) rfl (fun hg7 => ?_) (fun hg7 => ?_)
        · rw [hg7]
          have hg7' : (depE n ks ((((prs i0 k0 (one % n) ((one % n + 1 + two % (n - 1)) % n))[j]).1), (((prs i0 k0 (one % n) ((one % n + 1 + two % (n - 1)) % n))[j]).2))) ≠ 0 := of_decide_eq_true hg7
          refine Rv rfl rfl rfl (U_move rfl) rfl rfl ?_
          refine Rv rfl rfl rfl (U_neq rfl rfl) rfl rfl ?_
          refine Rv rfl rfl rfl (U_pick_t rfl rfl) rfl rfl ?_
          refine Rv rfl rfl rfl (U_move rfl) rfl rfl ?_
          refine Rsplit (t := 182) rfl (fun hg8 => ?_) (fun hg8 => ?_)
          · rw [hg8]
            have hg8' : (depE n ks ((((prs i0 k0 (one % n) ((one % n + 1 + two % (n - 1)) % n))[j]).1), (((prs i0 k0 (one % n) ((one % n + 1 + two % (n - 1)) % n))[j]).2))) ≠ 16 := of_decide_eq_true hg8
            refine Rs rfl rfl rfl rfl rfl ?_
            refine Rs rfl rfl rfl rfl rfl ?_
            refine Rs rfl rfl rfl rfl rfl ?_
            refine Rs rfl rfl rfl rfl rfl ?_
            refine Rs rfl rfl rfl rfl rfl ?_
            refine Rs rfl rfl rfl rfl rfl ?_
            refine Rs rfl rfl rfl rfl rfl ?_
            refine Rs rfl rfl rfl rfl rfl ?_
            refine Rs rfl rfl rfl rfl rfl ?_
            refine Rs rfl rfl rfl rfl rfl ?_
            refine Rs rfl rfl rfl rfl rfl ?_
            refine Rs rfl rfl rfl rfl rfl ?_
            refine Rs rfl rfl rfl rfl rfl ?_
            refine Rs rfl rfl rfl rfl rfl ?_
            refine Rs rfl rfl rfl rfl rfl ?_
            refine Rs rfl rfl rfl rfl rfl ?_
            refine Rv rfl rfl rfl (U_pick_t rfl rfl) rfl rfl ?_
            refine Re rfl ?_
            exact joinTo id ⟨eD rfl rfl, eD rfl rfl, eD rfl rfl, eD rfl rfl, eD rfl rfl, eD rfl rfl, eD rfl rfl, eD rfl rfl, trivial⟩ trivial rfl rfl rfl rfl (fun _ _ => rfl)
          · rw [hg8]
            have hg8' : ¬ ((depE n ks ((((prs i0 k0 (one % n) ((one % n + 1 + two % (n - 1)) % n))[j]).1), (((prs i0 k0 (one % n) ((one % n + 1 + two % (n - 1)) % n))[j]).2))) ≠ 16) := of_decide_eq_false hg8
            refine Rv rfl rfl rfl (U_move rfl) rfl rfl ?_
            refine Rv rfl rfl rfl (U_eql rfl rfl) rfl rfl ?_
            refine Rv rfl rfl rfl (U_move rfl) rfl rfl ?_
            refine Rsplit (t := 185) rfl (fun hg9 => ?_) (fun hg9 => ?_)
            · rw [hg9]
              have hg9' : (depE n ks ((((prs i0 k0 (one % n) ((one % n + 1 + two % (n - 1)) % n))[j]).1), (((prs i0 k0 (one % n) ((one % n + 1 + two % (n - 1)) % n))[j]).2))) = 0 := of_decide_eq_true hg9
              refine Rv rfl rfl rfl (U_move rfl) rfl rfl ?_
              refine Rv rfl rfl rfl (U_move rfl) rfl rfl ?_
              refine Rv rfl rfl rfl (U_gtr rfl rfl) rfl rfl ?_
              refine Rv rfl rfl rfl (U_move rfl) rfl rfl ?_
              refine Rsplit (t := 189) rfl (fun hg10 => ?_) (fun hg10 => ?_)
              · rw [hg10]
                have hg10' : ((d : Nat) : Int) < (depC n ks ((((prs i0 k0 (one % n) ((one % n + 1 + two % (n - 1)) % n))[j]).1), (((prs i0 k0 (one % n) ((one % n + 1 + two % (n - 1)) % n))[j]).2))) := of_decide_eq_true hg10
                refine Rs rfl rfl rfl rfl rfl ?_
                refine Rs rfl rfl rfl rfl rfl ?_
                refine Rs rfl rfl rfl rfl rfl ?_
                refine Rs rfl rfl rfl rfl rfl ?_
                refine Rs rfl rfl rfl rfl rfl ?_
                refine Rs rfl rfl rfl rfl rfl ?_
                refine Rs rfl rfl rfl rfl rfl ?_
                refine Rv rfl rfl rfl (U_pick_t rfl rfl) rfl rfl ?_
                refine Rv rfl rfl rfl (U_pick_t rfl rfl) rfl rfl ?_
                refine Rv rfl rfl rfl (U_pick_f rfl rfl) rfl rfl ?_
                refine Re rfl ?_
                exact joinTo id ⟨eD rfl rfl, eD rfl rfl, eD rfl rfl, eD rfl rfl, eD rfl rfl, eD rfl rfl, eD rfl rfl, eD rfl rfl, trivial⟩ trivial rfl rfl rfl rfl (fun _ _ => rfl)
              · rw [hg10]
                have hg10' : ¬ (((d : Nat) : Int) < (depC n ks ((((prs i0 k0 (one % n) ((one % n + 1 + two % (n - 1)) % n))[j]).1), (((prs i0 k0 (one % n) ((one % n + 1 + two % (n - 1)) % n))[j]).2)))) := of_decide_eq_false hg10
                refine Rv rfl rfl rfl (U_move rfl) rfl rfl ?_
                refine Rv rfl rfl rfl (U_lss rfl rfl) rfl rfl ?_
                refine Rv rfl rfl rfl (U_move rfl) rfl rfl ?_
                refine Rsplit (t := 192) rfl (fun hg11 => ?_) (fun hg11 => ?_)
                · rw [hg11]
                  have hg11' : ((j : Nat) : Int) < 2 := of_decide_eq_true hg11
                  refine Rv rfl rfl rfl (U_move rfl) rfl rfl ?_
                  refine Rv rfl rfl rfl (U_move rfl) rfl rfl ?_
                  refine Rv rfl rfl rfl (U_geq rfl rfl) rfl rfl ?_
                  refine Rv rfl rfl rfl (U_pick_t rfl rfl) rfl rfl ?_
                  refine Rv rfl rfl rfl (U_pick_f rfl rfl) rfl rfl ?_
                  refine Rv rfl rfl rfl (U_pick_t rfl rfl) rfl rfl ?_
                  refine Rv rfl rfl rfl (U_pick_f rfl rfl) rfl rfl ?_
                  refine Re rfl ?_
                  exact joinTo id ⟨eD rfl rfl, eD rfl rfl, eD rfl rfl, eD rfl rfl, eD rfl rfl, eD rfl rfl, eD rfl rfl, eD rfl rfl, trivial⟩ trivial rfl rfl rfl rfl (fun _ _ => rfl)
                · rw [hg11]
                  have hg11' : ¬ (((j : Nat) : Int) < 2) := of_decide_eq_false hg11
                  refine Rs rfl rfl rfl rfl rfl ?_
                  refine Rs rfl rfl rfl rfl rfl ?_
                  refine Rs rfl rfl rfl rfl rfl ?_
                  refine Rv rfl rfl rfl (U_pick_f rfl rfl) rfl rfl ?_
                  refine Rv rfl rfl rfl (U_pick_f rfl rfl) rfl rfl ?_
                  refine Rv rfl rfl rfl (U_pick_t rfl rfl) rfl rfl ?_
                  refine Rv rfl rfl rfl (U_pick_f rfl rfl) rfl rfl ?_
                  refine Re rfl ?_
                  exact joinTo id ⟨eD rfl rfl, eD rfl rfl, eD rfl rfl, eD rfl rfl, eD rfl rfl, eD rfl rfl, eD rfl rfl, eD rfl rfl, trivial⟩ trivial rfl rfl rfl rfl (fun _ _ => rfl)
            · rw [hg9]
              have hg9' : ¬ ((depE n ks ((((prs i0 k0 (one % n) ((one % n + 1 + two % (n - 1)) % n))[j]).1), (((prs i0 k0 (one % n) ((one % n + 1 + two % (n - 1)) % n))[j]).2))) = 0) := of_decide_eq_false hg9
              refine Rs rfl rfl rfl rfl rfl ?_
              refine Rs rfl rfl rfl rfl rfl ?_
              refine Rs rfl rfl rfl rfl rfl ?_
              refine Rs rfl rfl rfl rfl rfl ?_
              refine Rs rfl rfl rfl rfl rfl ?_
              refine Rs rfl rfl rfl rfl rfl ?_
              refine Rs rfl rfl rfl rfl rfl ?_
              refine Rs rfl rfl rfl rfl rfl ?_
              refine Rs rfl rfl rfl rfl rfl ?_
              refine Rs rfl rfl rfl rfl rfl ?_
              refine Rs rfl rfl rfl rfl rfl ?_
              refine Rs rfl rfl rfl rfl rfl ?_
              refine Rv rfl rfl rfl (U_pick_f rfl rfl) rfl rfl ?_
              refine Rv rfl rfl rfl (U_pick_f rfl rfl) rfl rfl ?_
              refine Re rfl ?_
              exact joinTo id ⟨eD rfl rfl, eD rfl rfl, eD rfl rfl, eD rfl rfl, eD rfl rfl, eD rfl rfl, eD rfl rfl, eD rfl rfl, trivial⟩ trivial rfl rfl rfl rfl (fun _ _ => rfl)
        · rw [hg7]
          have hg7' : ¬ ((depE n ks ((((prs i0 k0 (one % n) ((one % n + 1 + two % (n - 1)) % n))[j]).1), (((prs i0 k0 (one % n) ((one % n + 1 + two % (n - 1)) % n))[j]).2))) ≠ 0) := of_decide_eq_false hg7
          refine Rs rfl rfl rfl rfl rfl ?_
          refine Rs rfl rfl rfl rfl rfl ?_
          refine Rv rfl rfl rfl (U_pick_f rfl rfl) rfl rfl ?_
          refine Rv rfl rfl rfl (U_move rfl) rfl rfl ?_
          refine Rv rfl rfl rfl (U_move rfl) rfl rfl ?_
          refine Rv rfl rfl rfl (U_eql rfl rfl) rfl rfl ?_
          refine Rv rfl rfl rfl (U_move rfl) rfl rfl ?_
          refine Rsplit (t := 185) rfl (fun hg12 => ?_) (fun hg12 => ?_)
          · rw [hg12]
            have hg12' : (depE n ks ((((prs i0 k0 (one % n) ((one % n + 1 + two % (n - 1)) % n))[j]).1), (((prs i0 k0 (one % n) ((one % n + 1 + two % (n - 1)) % n))[j]).2))) = 0 := of_decide_eq_true hg12
            refine Rv rfl rfl rfl (U_move rfl) rfl rfl ?_
            refine Rv rfl rfl rfl (U_move rfl) rfl rfl ?_
            refine Rv rfl rfl rfl (U_gtr rfl rfl) rfl rfl ?_
            refine Rv rfl rfl rfl (U_move rfl) rfl rfl ?_
            refine Rsplit (t := 189) rfl (fun hg13 => ?_) (fun hg13 => ?_)
            · rw [hg13]
              have hg13' : ((d : Nat) : Int) < (depC n ks ((((prs i0 k0 (one % n) ((one % n + 1 + two % (n - 1)) % n))[j]).1), (((prs i0 k0 (one % n) ((one % n + 1 + two % (n - 1)) % n))[j]).2))) := of_decide_eq_true hg13
              refine Rs rfl rfl rfl rfl rfl ?_
              refine Rs rfl rfl rfl rfl rfl ?_
              refine Rs rfl rfl rfl rfl rfl ?_
              refine Rs rfl rfl rfl rfl rfl ?_
              refine Rs rfl rfl rfl rfl rfl ?_
              refine Rs rfl rfl rfl rfl rfl ?_
              refine Rs rfl rfl rfl rfl rfl ?_
              refine Rv rfl rfl rfl (U_pick_t rfl rfl) rfl rfl ?_
              refine Rv rfl rfl rfl (U_pick_t rfl rfl) rfl rfl ?_
              refine Rv rfl rfl rfl (U_pick_f rfl rfl) rfl rfl ?_
              refine Re rfl ?_
              exact joinTo id ⟨eD rfl rfl, eD rfl rfl, eD rfl rfl, eD rfl rfl, eD rfl rfl, eD rfl rfl, eD rfl rfl, eD rfl rfl, trivial⟩ trivial rfl rfl rfl rfl (fun _ _ => rfl)
            · rw [hg13]
              have hg13' : ¬ (((d : Nat) : Int) < (depC n ks ((((prs i0 k0 (one % n) ((one % n + 1 + two % (n - 1)) % n))[j]).1), (((prs i0 k0 (one % n) ((one % n + 1 + two % (n - 1)) % n))[j]).2)))) := of_decide_eq_false hg13
              refine Rv rfl rfl rfl (U_move rfl) rfl rfl ?_
              refine Rv rfl rfl rfl (U_lss rfl rfl) rfl rfl ?_
              refine Rv rfl rfl rfl (U_move rfl) rfl rfl ?_
              refine Rsplit (t := 192) rfl (fun hg14 => ?_) (fun hg14 => ?_)
              · rw [hg14]
                have hg14' : ((j : Nat) : Int) < 2 := of_decide_eq_true hg14
                refine Rv rfl rfl rfl (U_move rfl) rfl rfl ?_
                refine Rv rfl rfl rfl (U_move rfl) rfl rfl ?_
                refine Rv rfl rfl rfl (U_geq rfl rfl) rfl rfl ?_
                refine Rv rfl rfl rfl (U_pick_t rfl rfl) rfl rfl ?_
                refine Rv rfl rfl rfl (U_pick_f rfl rfl) rfl rfl ?_
                refine Rv rfl rfl rfl (U_pick_t rfl rfl) rfl rfl ?_
                refine Rv rfl rfl rfl (U_pick_f rfl rfl) rfl rfl ?_
                refine Re rfl ?_
                exact joinTo id ⟨eD rfl rfl, eD rfl rfl, eD rfl rfl, eD rfl rfl, eD rfl rfl, eD rfl rfl, eD rfl rfl, eD rfl rfl, trivial⟩ trivial rfl rfl rfl rfl (fun _ _ => rfl)
              · rw [hg14]
                have hg14' : ¬ (((j : Nat) : Int) < 2) := of_decide_eq_false hg14
                refine Rs rfl rfl rfl rfl rfl ?_
                refine Rs rfl rfl rfl rfl rfl ?_
                refine Rs rfl rfl rfl rfl rfl ?_
                refine Rv rfl rfl rfl (U_pick_f rfl rfl) rfl rfl ?_
                refine Rv rfl rfl rfl (U_pick_f rfl rfl) rfl rfl ?_
                refine Rv rfl rfl rfl (U_pick_t rfl rfl) rfl rfl ?_
                refine Rv rfl rfl rfl (U_pick_f rfl rfl) rfl rfl ?_
                refine Re rfl ?_
                exact joinTo id ⟨eD rfl rfl, eD rfl rfl, eD rfl rfl, eD rfl rfl, eD rfl rfl, eD rfl rfl, eD rfl rfl, eD rfl rfl, trivial⟩ trivial rfl rfl rfl rfl (fun _ _ => rfl)
          · rw [hg12]
            have hg12' : ¬ ((depE n ks ((((prs i0 k0 (one % n) ((one % n + 1 + two % (n - 1)) % n))[j]).1), (((prs i0 k0 (one % n) ((one % n + 1 + two % (n - 1)) % n))[j]).2))) = 0) := of_decide_eq_false hg12
            refine Rs rfl rfl rfl rfl rfl ?_
            refine Rs rfl rfl rfl rfl rfl ?_
            refine Rs rfl rfl rfl rfl rfl ?_
            refine Rs rfl rfl rfl rfl rfl ?_
            refine Rs rfl rfl rfl rfl rfl ?_
            refine Rs rfl rfl rfl rfl rfl ?_
            refine Rs rfl rfl rfl rfl rfl ?_
            refine Rs rfl rfl rfl rfl rfl ?_
            refine Rs rfl rfl rfl rfl rfl ?_
            refine Rs rfl rfl rfl rfl rfl ?_
            refine Rs rfl rfl rfl rfl rfl ?_
            refine Rs rfl rfl rfl rfl rfl ?_
            refine Rv rfl rfl rfl (U_pick_f rfl rfl) rfl rfl ?_
            refine Rv rfl rfl rfl (U_pick_f rfl rfl) rfl rfl ?_
            refine Re rfl ?_
            exact joinTo id ⟨eD rfl rfl, eD rfl rfl, eD rfl rfl, eD rfl rfl, eD rfl rfl, eD rfl rfl, eD rfl rfl, eD rfl rfl, trivial⟩ trivial rfl rfl rfl rfl (fun _ _ => rfl)
      refine thenQ_n ?_
      refine Wcond rfl rfl (fun hc5 => absurd hc5 (by revert hf1 hf2; generalize depE n ks ((prs i0 k0 (one % n) ((one % n + 1 + two % (n - 1)) % n))[j].1, (prs i0 k0 (one % n) ((one % n + 1 + two % (n - 1)) % n))[j].2) = ej; generalize depC n ks ((prs i0 k0 (one % n) ((one % n + 1 + two % (n - 1)) % n))[j].1, (prs i0 k0 (one % n) ((one % n + 1 + two % (n - 1)) % n))[j].2) = cj; intro hf1 hf2; exact deep_c5 hf1 hf2 hj2)) (fun hc5 => ?_)
      refine W_skip rfl ?_
      refine thenQ_n ?_
      refine W_seq rfl ?_
      refine Wjoin ⟨[(3, .rop [i64 ((n : Nat) : Int), .ros (ks.flatMap lkN) ks.length c] 0), (7, i64 ((d : Nat) : Int)), (16, .ros ((prs i0 k0 (one % n) ((one % n + 1 + two % (n - 1)) % n)).flatMap lkN) ((prs i0 k0 (one % n) ((one % n + 1 + two % (n - 1)) % n)).length) (some 4)), (17, i64 M), (18, i64 ((j : Nat) : Int)), (19, i64 (depC n ks ((((prs i0 k0 (one % n) ((one % n + 1 + two % (n - 1)) % n))[j]).1), (((prs i0 k0 (one % n) ((one % n + 1 + two % (n - 1)) % n))[j]).2)))), (205, .bool ((decide (2 ≤ ((j : Nat) : Int))) && (decide ((depE n ks ((((prs i0 k0 (one % n) ((one % n + 1 + two % (n - 1)) % n))[j]).1), (((prs i0 k0 (one % n) ((one % n + 1 + two % (n - 1)) % n))[j]).2))) = 0))))], [], 0, []⟩ ?_ ?_
      · refine W_reg rfl ?_
        refine Rv rfl rfl rfl (U_move rfl) rfl rfl ?_
        refine Rv rfl rfl rfl (U_geq rfl rfl) rfl rfl ?_
        refine Rv rfl rfl rfl (U_move rfl) rfl rfl ?_
        refine Rsplit (t := 202) rfl (fun hg15 => ?_) (fun hg15 => ?_)
        · rw [hg15]
          have hg15' : 2 ≤ ((j : Nat) : Int) := of_decide_eq_true hg15
          refine Rv rfl rfl rfl (U_move rfl) rfl rfl ?_
          refine Rv rfl rfl rfl (U_eql rfl rfl) rfl rfl ?_
          refine Rv rfl rfl rfl (U_pick_t rfl rfl) rfl rfl ?_
          refine Re rfl ?_
          exact joinTo id ⟨eD rfl rfl, eD rfl rfl, eD rfl rfl, eD rfl rfl, eD rfl rfl, eD rfl rfl, eD rfl rfl, trivial⟩ trivial rfl rfl rfl rfl (fun _ _ => rfl)
        · rw [hg15]
          have hg15' : ¬ (2 ≤ ((j : Nat) : Int)) := of_decide_eq_false hg15
          refine Rs rfl rfl rfl rfl rfl ?_
          refine Rs rfl rfl rfl rfl rfl ?_
          refine Rv rfl rfl rfl (U_pick_f rfl rfl) rfl rfl ?_
          refine Re rfl ?_
          exact joinTo id ⟨eD rfl rfl, eD rfl rfl, eD rfl rfl, eD rfl rfl, eD rfl rfl, eD rfl rfl, eD rfl rfl, trivial⟩ trivial rfl rfl rfl rfl (fun _ _ => rfl)
      refine thenQ_n ?_
      refine Wcond rfl rfl (fun hc6 => ?_) (fun hc6 => ?_)
      · refine W_reg rfl ?_
        refine Rv rfl rfl rfl (U_move rfl) rfl rfl ?_
        refine Rv rfl rfl rfl (U_move rfl) rfl rfl ?_
        refine Rv rfl rfl rfl (U_max rfl rfl rfl) rfl rfl ?_
        refine Rv rfl rfl rfl (U_assign rfl) rfl rfl ?_
        refine Re rfl ?_
        refine blkQ_n ?_
        refine thenQ_n ?_
        refine W_reg rfl ?_
        refine Rv rfl rfl rfl (U_move rfl) rfl rfl ?_
        refine Rv rfl rfl rfl (U_add rfl rfl (w64e (m := ((j + 1 : Nat) : Int)) (by omega) (by omega) (by omega))) rfl rfl ?_
        refine Rv rfl rfl rfl (U_assign rfl) rfl rfl ?_
        refine Re rfl ?_
        refine thenQ_n ?_
        exact againTo (T' := [(3, .rop [i64 ((n : Nat) : Int), .ros (ks.flatMap lkN) ks.length c] 0), (7, i64 ((d : Nat) : Int)), (16, .ros ((prs i0 k0 (one % n) ((one % n + 1 + two % (n - 1)) % n)).flatMap lkN) ((prs i0 k0 (one % n) ((one % n + 1 + two % (n - 1)) % n)).length) (some 4)), (17, i64 _), (18, i64 (((j + 1) : Nat) : Int))]) (H' := []) (n := 0) (4 - (j + 1)) ⟨j + 1, _, (by omega), (by omega), (by intro t ht h2 h3 h4; rcases Nat.lt_succ_iff_lt_or_eq.1 h3 with h | rfl; have := hi0_2 t ht h2 h h4; omega; first | omega | exact absurd ⟨h2, h4⟩ hq6), rfl, rfl⟩ (by omega) id ⟨eD rfl rfl, eD rfl rfl, eD rfl rfl, eD rfl rfl, eD rfl rfl, trivial⟩ trivial rfl rfl rfl rfl (fun _ _ => rfl)
      · have hc6' := Bool.eq_false_iff.1 hc6
        have hq6 : ¬ (2 ≤ j ∧ depE n ks ((prs i0 k0 (one % n) ((one % n + 1 + two % (n - 1)) % n))[j].1, (prs i0 k0 (one % n) ((one % n + 1 + two % (n - 1)) % n))[j].2) = 0) := by revert hc6; generalize depE n ks ((prs i0 k0 (one % n) ((one % n + 1 + two % (n - 1)) % n))[j].1, (prs i0 k0 (one % n) ((one % n + 1 + two % (n - 1)) % n))[j].2) = ej; simp; omega
        refine W_skip rfl ?_
        refine blkQ_n ?_
        refine thenQ_n ?_
        refine W_reg rfl ?_
        refine Rv rfl rfl rfl (U_move rfl) rfl rfl ?_
        refine Rv rfl rfl rfl (U_add rfl rfl (w64e (m := ((j + 1 : Nat) : Int)) (by omega) (by omega) (by omega))) rfl rfl ?_
        refine Rv rfl rfl rfl (U_assign rfl) rfl rfl ?_
        refine Re rfl ?_
        refine thenQ_n ?_
        exact againTo (T' := [(3, .rop [i64 ((n : Nat) : Int), .ros (ks.flatMap lkN) ks.length c] 0), (7, i64 ((d : Nat) : Int)), (16, .ros ((prs i0 k0 (one % n) ((one % n + 1 + two % (n - 1)) % n)).flatMap lkN) ((prs i0 k0 (one % n) ((one % n + 1 + two % (n - 1)) % n)).length) (some 4)), (17, i64 _), (18, i64 (((j + 1) : Nat) : Int))]) (H' := []) (n := 0) (4 - (j + 1)) ⟨j + 1, _, (by omega), (by omega), (by intro t ht h2 h3 h4; rcases Nat.lt_succ_iff_lt_or_eq.1 h3 with h | rfl; have := hi0_2 t ht h2 h h4; omega; first | omega | exact absurd ⟨h2, h4⟩ hq6), rfl, rfl⟩ (by omega) id ⟨eD rfl rfl, eD rfl rfl, eD rfl rfl, eD rfl rfl, eD rfl rfl, trivial⟩ trivial rfl rfl rfl rfl (fun _ _ => rfl)
  · obtain rfl : 4 = j := by omega
    obtain ⟨he, hz⟩ := deep_end hfx hi0_2
    refine W_exit rfl ?_
    refine thenQ_x ?_
    refine thenQ_x ?_
    refine blkQ_x rfl ?_
    refine thenQ_n ?_
    refine W_seq rfl ?_
    refine W_reg rfl ?_
    refine Rv rfl rfl rfl (U_move rfl) rfl rfl ?_
    refine Rv rfl rfl rfl (U_move rfl) rfl rfl ?_
    refine Rv rfl rfl rfl (U_sub rfl rfl (w64 (by omega) (by omega))) rfl rfl ?_
    refine Rv rfl rfl rfl (OpU.toB (U_geq rfl rfl) (decide_eq_true (by omega))) rfl rfl ?_
    refine Rv rfl rfl rfl (U_move rfl) rfl rfl ?_
    refine Rv rfl rfl rfl (U_move rfl) rfl rfl ?_
    refine Rv rfl rfl rfl (OpU.toB (U_geq rfl rfl) (decide_eq_true (by omega))) rfl rfl ?_
    refine Rv rfl rfl rfl (U_pick_t rfl rfl) rfl rfl ?_
    refine Rv rfl rfl rfl (U_move rfl) rfl rfl ?_
    refine Rv rfl rfl rfl (U_call rfl rfl (works_p) rfl) rfl rfl ?_
    refine Rv rfl rfl rfl (U_pick_t rfl rfl) rfl rfl ?_
    refine Rv rfl rfl rfl (U_assign rfl) rfl rfl ?_
    refine Re rfl ?_
    refine thenQ_n ?_
    refine W_ret rfl ?_
    exact retL (rlT rfl rl0) rfl rfl
theorem rankDeep_p (b : Bk) (c : Option Nat) (one two : Nat) (hu1 : one < 256) (hu2 : two < 256) : Pure Try.prog 16 [bookA b c, .int .u8 (one : Nat), .int .u8 (two : Nat)] (.bool true) := by
  cases hf : fneB b with
  | false => exact deep_a b c (ordered_F b c hf) one two hu1 hu2
  | true =>
    have h1 := fine_T b c hf
    obtain ⟨n, ks, rfl, hv, h40⟩ := chkB_ok (fne_ok hf)
    rcases acy_or n ks with ha | ⟨g, hg⟩
    · rw [bk_eq] at h1 ⊢
      have hO := ordered_A n ks c hv h1 ha
      by_cases hn2 : n < 2
      · exact deep_b n ks c hv h40 hO hn2 one two hu1 hu2
      · by_cases h4 : 4 < n
        · exact deep_c n ks c hv h40 hO hn2 h4 one two hu1 hu2
        · by_cases h39 : 40 ≤ ks.length
          · exact deep_d n ks c hv h40 hO hn2 h4 h39 one two hu1 hu2
          · have h4' : n ≤ 4 := by omega
            have hm := cnt_acy hv ha
            have h24 := ords_24 hv h4'
            have hft := ords_fit hv
            have hlen := ords_len hv
            have hpw : cntQ n ks ≤ 1 <<< depQ n ks := by
              rw [one_shl, ← hlen]; exact (dp_main h4' _ _ (Nat.le_refl _) h24 hft).1
            have hdm : depQ n ks = 0 ↔ cntQ n ks = 1 := by
              constructor
              · intro h; rw [h] at hpw; simp at hpw; omega
              · intro h; exact dpQ_0 (by omega)
            have hnx := next_g n ks c hv h40 ha h4'
            have h42 := depth_g n ks c hv h40 ha h4'
            have h28 := cntA_p n ks c hv h40 ha
            have hfa := fun a b ha hb hab => dep_fact (n := n) (ks := ks) (a := a) (b := b) hv (by omega) h4' ha hb hab
            have hfo := fun a b ha' hb hab => dep_one (n := n) (ks := ks) (a := a) (b := b) hv (by omega) ha h4' ha' hb hab
            by_cases hd : 0 < depQ n ks
            · obtain ⟨p, e, hp1, hp2, hp3, hp4⟩ := nxt_have h4' h24 hft hd
              rw [e] at hnx
              exact deep_e n ks c hv h40 ha hO hn2 h4 h39 one two hu1 hu2 (depQ n ks) (cntQ n ks) p.1 p.2 0 (dep_le hv h4') hm hpw hdm (.inl ⟨hd, rfl⟩) (fun _ => ⟨hp1, hp2⟩) (by omega) (by omega)
                (fun _ => dep_gud hv (by omega) h4' (by omega) hp2 (by omega) hp3) (fun _ => dep_gud hv (by omega) h4' hp2 (by omega) (by omega) hp4) hfa hfo h42 hnx h28
            · have e : (prQ n).find? (gudP (dpQ n) (ords n ks)) = none := nx_zero (by show depQ n ks = 0; omega)
              rw [e] at hnx
              exact deep_e n ks c hv h40 ha hO hn2 h4 h39 one two hu1 hu2 (depQ n ks) (cntQ n ks) 0 0 5 (dep_le hv h4') hm hpw hdm (.inr ⟨by omega, rfl⟩) (fun h => absurd h hd) (by omega) (by omega)
                (fun h => absurd h hd) (fun h => absurd h hd) hfa hfo h42 hnx h28
    · refine deep_a _ c ?_ one two hu1 hu2
      rw [bk_eq] at h1 ⊢
      exact ordered_Y n ks c hv h1 g hg
end Go.Proofs.Ythmibifghihdaaa
end
