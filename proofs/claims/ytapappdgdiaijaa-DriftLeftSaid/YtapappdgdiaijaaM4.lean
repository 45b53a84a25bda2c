import Derived.Test.YtapappdgdiaijaaM3
import Derived.Test.YtapappdgdiaijaaM2
section
/- Contracts of the smallest functions of package drift. -/
namespace Go.Proofs.Ytapappdgdiaijaa
open Go.AE
abbrev i64 (n : Int) : AV := .int .i64 n
abbrev ratA (q : Int × Int) : AV := .agg [i64 q.1, i64 q.2]
def body (fn : Func) : Code := (fn.body).getD .skip
/-- A fraction in least terms. -/
def frac (n d : Int) : Int × Int := (n.tdiv (Int.gcd n d), d.tdiv (Int.gcd n d))
def lessQ (a b : Int × Int) : Bool := decide (a.1 * b.2 < b.1 * a.2)
theorem tmod_nat (a b : Nat) : (a : Int).tmod b = ((a % b : Nat) : Int) := by rw [Int.tmod_eq_emod_of_nonneg (by omega)]; rfl
theorem gcd_step {a b : Nat} : Nat.gcd b (a % b) = Nat.gcd a b := by rw [Nat.gcd_comm b, ← Nat.gcd_rec, Nat.gcd_comm]
theorem frac_eq (n d : Int) (a : Nat) (h : a = Int.gcd n d) : (n.tdiv a, d.tdiv a) = frac n d := by subst h; rfl
theorem wdiv {n : Int} (h : -9000000000000000000 ≤ n ∧ n ≤ 9000000000000000000) (a : Nat) : IntKind.i64.wrap (n.tdiv a) = n.tdiv a := by
  have h1 : (n.tdiv a).natAbs ≤ n.natAbs := by rw [Int.natAbs_tdiv]; exact Nat.div_le_self _ _
  exact w64 (by omega) (by omega)
theorem frac_p (n d : Int) (hn : -9000000000000000000 ≤ n ∧ n ≤ 9000000000000000000) (hd : 1 ≤ d ∧ d ≤ 9000000000000000000) : Pure Try.prog 101 [i64 n, i64 d] (ratA (frac n d)) := by
  have hp : 0 < Int.gcd n d := Int.gcd_pos_of_ne_zero_right _ (by omega)
  refine pure_of_body Try.func101 (c := body Try.f101) rfl (by simp [Try.ntmps101]) fun w0 Φ0 => ?_
  refine W_seq rfl ?_
  refine W_reg rfl ?_
  refine Ra rfl rfl rfl (U_alloc) rfl rfl rfl ?_
  refine Re rfl ?_
  refine thenQ_n ?_
  refine W_seq rfl ?_
  refine W_reg rfl ?_
  refine Rv rfl rfl rfl (U_move rfl) rfl rfl ?_
  refine Rv rfl rfl rfl (U_move rfl) rfl rfl ?_
  refine Rv rfl rfl rfl (U_neg rfl (w64 (by omega) (by omega))) rfl rfl ?_
  refine Rv rfl rfl rfl (U_max rfl rfl (show max n (-n) = ((n.natAbs : Nat) : Int) by omega)) rfl rfl ?_
  refine Rv rfl rfl rfl (U_move rfl) rfl rfl ?_
  refine Rv rfl rfl rfl (U_assign rfl) rfl rfl ?_
  refine Rv rfl rfl rfl (U_assign rfl) rfl rfl ?_
  refine Re rfl ?_
  refine thenQ_n ?_
  refine W_seq rfl ?_
  refine W_block rfl ?_
  refine Wless (T' := [(6, i64 (d.natAbs : Nat)), (5, i64 (n.natAbs : Nat)), (4, .ptr 0 0), (0, i64 n), (1, i64 d)]) (H' := [(0, some (.cells [i64 0, i64 0] 28))]) ⟨by simp [lk, i64]; omega, rfl, rfl, rfl, rfl, trivial⟩ ⟨rfl, trivial⟩ ?_
  refine Wloop rfl (fun m s => ∃ a b : Nat, b = m ∧ Nat.gcd a b = Int.gcd n d ∧ a ≤ 9000000000000000000 ∧ b ≤ 9000000000000000000 ∧ s = ⟨[(6, i64 b), (5, i64 a), (4, .ptr 0 0), (0, i64 n), (1, i64 d)], [(0, some (.cells [i64 0, i64 0] 28))], 1, []⟩) (n := d.natAbs) ⟨n.natAbs, d.natAbs, rfl, rfl, by omega, by omega, rfl⟩ ?_
  rintro _ _ ⟨a, b, rfl, hg, ha, hb, rfl⟩
  refine W_seq rfl ?_
  refine W_seq rfl ?_
  refine W_reg rfl ?_
  refine Rv rfl rfl rfl (U_move rfl) rfl rfl ?_
  refine Rv rfl rfl rfl (U_gtr rfl rfl) rfl rfl ?_
  refine Re rfl ?_
  refine thenQ_n ?_
  refine WcondP rfl rfl (fun hc => ?_) (fun hc => ?_)
  · refine W_skip rfl ?_
    refine thenQ_n ?_
    refine W_block rfl ?_
    refine Wdraw rfl (by kernel_rfl) (by kernel_rfl) ?_
    refine Dv rfl rfl rfl (U_move rfl) rfl rfl ?_
    refine Dv rfl rfl rfl (U_move rfl) rfl rfl ?_
    refine Dv rfl rfl rfl (U_move rfl) rfl rfl ?_
    refine Dv rfl rfl rfl (U_rem rfl rfl (by omega) (tmod_nat a b)) rfl rfl ?_
    refine Dv rfl rfl rfl (U_assign rfl) rfl rfl ?_
    refine Dv rfl rfl rfl (U_assign rfl) rfl rfl ?_
    refine Dr.nil rfl ?_
    refine blkQ_n ?_
    refine thenQ_n ?_
    exact again (a % b) (Nat.mod_lt _ (by omega)) (T' := [(6, i64 (a % b : Nat)), (5, i64 b), (4, .ptr 0 0), (0, i64 n), (1, i64 d)]) (H' := [(0, some (.cells [i64 0, i64 0] 28))]) ⟨rfl, rfl, rfl, rfl, rfl, trivial⟩ ⟨rfl, trivial⟩ ⟨b, a % b, rfl, by rw [gcd_step]; exact hg, hb, Nat.le_trans (Nat.mod_le _ _) ha, rfl⟩
  · refine W_exit rfl ?_
    refine thenQ_x ?_
    refine thenQ_x ?_
    refine blkQ_x rfl ?_
    refine thenQ_n ?_
    refine W_seq rfl ?_
    refine W_reg rfl ?_
    obtain rfl : b = 0 := by omega
    rw [Nat.gcd_zero_right] at hg
    refine Rv rfl rfl rfl (U_move rfl) rfl rfl ?_
    refine Rv rfl rfl rfl (U_max rfl rfl (show max 1 (a : Int) = a by omega)) rfl rfl ?_
    refine Rv rfl rfl rfl (U_assign rfl) rfl rfl ?_
    refine Re rfl ?_
    refine thenQ_n ?_
    refine W_seq rfl ?_
    refine Wdraw rfl (by kernel_rfl) (by kernel_rfl) ?_
    refine Dv rfl rfl rfl (U_move rfl) rfl rfl ?_
    refine Dv rfl rfl rfl (U_move rfl) rfl rfl ?_
    refine Dv rfl rfl rfl (U_quo rfl rfl (by omega) (wdiv hn _)) rfl rfl ?_
    refine Dv rfl rfl rfl (U_move rfl) rfl rfl ?_
    refine Dv rfl rfl rfl (U_move rfl) rfl rfl ?_
    refine Dv rfl rfl rfl (U_quo rfl rfl (by omega) (wdiv (by omega) _)) rfl rfl ?_
    refine Dv rfl rfl rfl (U_build rfl rfl) rfl rfl ?_
    first | refine Dn_ rfl rfl rfl (U_storeAll rfl rfl rfl rfl rfl rfl) rfl rfl ?_ | refine Dn_ rfl rfl rfl (U_store rfl rfl rfl rfl rfl (by decide) rfl rfl) rfl rfl ?_
    refine Dr.nil rfl ?_
    refine thenQ_n ?_
    refine W_ret rfl ?_
    exact retC rfl rfl rfl (by rw [← frac_eq n d a hg]; rfl) rfl
end Go.Proofs.Ytapappdgdiaijaa
end

section
/- Contracts of package drift: ranges, and which stars are valid. -/
namespace Go.Proofs.Ytapappdgdiaijaa
open Go.AE
/-- An entry of a star. -/
structure Ent where
  y : Int
  lo : Int
  hi : Int
  deriving DecidableEq
def entC (e : Ent) : List AV := [i64 e.y, i64 e.lo, i64 e.hi]
abbrev entA (e : Ent) : AV := .agg [i64 e.y, i64 e.lo, i64 e.hi]
abbrev entsA (es : List Ent) (c : Option Nat) : AV := .ros (es.flatMap entC) es.length c
abbrev intsA (l : List Int) (c : Option Nat) : AV := .ros (l.map i64) l.length c
/-- A star. -/
structure Star where
  lo : Int
  hi : Int
  es : List Ent
abbrev starA (s : Star) (c : Option Nat) : AV := .agg [i64 s.lo, i64 s.hi, entsA s.es c]
abbrev cardA (s : Star) (c : Option Nat) : AV := .rop [i64 s.lo, i64 s.hi, entsA s.es c] 0
theorem get1 {l : List Int} {k : Nat} (h : k < l.length) : (l.map i64)[k * 1]? = some (i64 l[k]) := by simp [h]
theorem flat_get {α : Type} {f : α → List AV} {z : Nat} (hf : ∀ e, (f e).length = z) : ∀ {es : List α} {k : Nat} (h : k < es.length) (j : Nat), j < z → (es.flatMap f)[k * z + j]? = (f es[k])[j]?
  | [], k, h, _, _ => by simp at h
  | e :: es, 0, _, j, hj => by simp only [List.flatMap_cons, List.getElem_cons_zero, Nat.zero_mul, Nat.zero_add]; rw [List.getElem?_append_left (by rw [hf]; exact hj)]
  | e :: es, k + 1, h, j, hj => by
    simp only [List.flatMap_cons, List.getElem_cons_succ]
    rw [List.getElem?_append_right (by rw [hf, Nat.add_mul]; omega), hf, show (k + 1) * z + j - z = k * z + j by rw [Nat.add_mul]; omega]
    exact flat_get hf (by simpa using h) j hj
theorem ent0 {es : List Ent} {k : Nat} (h : k < es.length) : (es.flatMap entC)[k * 3]? = some (i64 es[k].y) := by have := flat_get (f := entC) (z := 3) (fun _ => rfl) h 0 (by omega); simpa [entC] using this
theorem ent1 {es : List Ent} {k : Nat} (h : k < es.length) : (es.flatMap entC)[k * 3 + 1]? = some (i64 es[k].lo) := by have := flat_get (f := entC) (z := 3) (fun _ => rfl) h 1 (by omega); simpa [entC] using this
theorem ent2 {es : List Ent} {k : Nat} (h : k < es.length) : (es.flatMap entC)[k * 3 + 1 + 1]? = some (i64 es[k].hi) := by have := flat_get (f := entC) (z := 3) (fun _ => rfl) h 2 (by omega); simpa [entC] using this
theorem entsD (es : List Ent) : dataL (es.flatMap entC) := dataL_flatMap fun _ _ => rfl
/-- The first place where a test holds. -/
def idxI {α : Type} (p : α → Bool) (l : List α) : Int := match l.findIdx? p with
  | some i => i
  | none => -1
theorem idx_hit {α : Type} {p : α → Bool} {l : List α} {k : Nat} (hk : k < l.length) (h : ∀ j (hj : j < l.length), j < k → p l[j] = false) (hp : p l[k] = true) : idxI p l = k := by
  have : l.findIdx? p = some k := List.findIdx?_eq_some_iff_getElem.2 ⟨hk, hp, fun j hj => by simp [h j (by omega) hj]⟩
  simp [idxI, this]
theorem idx_end {α : Type} {p : α → Bool} {l : List α} (h : ∀ j (hj : j < l.length), p l[j] = false) : idxI p l = -1 := by
  have : l.findIdx? p = none := by
    rw [List.findIdx?_eq_none_iff]; intro x hx
    obtain ⟨j, hj, rfl⟩ := List.getElem_of_mem hx; exact h j hj
  simp [idxI, this]
theorem idx_any {α : Type} {p : α → Bool} {l : List α} : decide (0 ≤ idxI p l) = l.any p := by
  cases h : l.findIdx? p with
  | none =>
    have := List.findIdx?_eq_none_iff.1 h
    have : l.any p = false := by rw [List.any_eq_false]; intro x hx; simp [this x hx]
    simp [idxI, h, this]
  | some i =>
    obtain ⟨hi, hp, _⟩ := List.findIdx?_eq_some_iff_getElem.1 h
    have : l.any p = true := List.any_eq_true.2 ⟨l[i], List.getElem_mem hi, hp⟩
    simp [idxI, h, this]
theorem out_p (n lo hi : Int) : Pure Try.prog 99 [i64 n, .rop [i64 lo] 0, .rop [i64 hi] 0] (.bool (decide (n < lo) || decide (hi < n))) := by
  refine pure_of_body Try.func99 (c := body Try.f99) rfl (by simp [Try.ntmps99]) fun w0 Φ0 => ?_
  refine W_seq rfl ?_
  refine W_reg rfl ?_
  refine Rv rfl rfl rfl (U_assign rfl) rfl rfl ?_
  refine Re rfl ?_
  refine thenQ_n ?_
  refine W_seq rfl ?_
  refine W_reg rfl ?_
  refine Rv rfl rfl rfl (U_move rfl) rfl rfl ?_
  refine Rv rfl rfl rfl (U_load1 rfl rfl rfl) rfl rfl ?_
  refine Rv rfl rfl rfl (U_lss rfl rfl) rfl rfl ?_
  refine Rv rfl rfl rfl (U_move rfl) rfl rfl ?_
  refine Rsplit (t := 8) rfl (fun hg1_3 => ?_) (fun hg1_3 => ?_)
  · rw [hg1_3]
    refine Rs rfl rfl rfl rfl rfl ?_
    refine Rs rfl rfl rfl rfl rfl ?_
    refine Rs rfl rfl rfl rfl rfl ?_
    first | refine Rv rfl rfl rfl (U_pick_t rfl rfl) rfl rfl ?_ | refine Rv rfl rfl rfl (U_pick_f rfl rfl) rfl rfl ?_ | refine Rv rfl rfl rfl (U_pick_b rfl rfl rfl) rfl rfl ?_
    refine Rv rfl rfl rfl (U_assign rfl) rfl rfl ?_
    refine Re rfl ?_
    refine thenQ_n ?_
    refine W_ret rfl ?_
    exact ret1 rfl rfl rfl
  · rw [hg1_3]
    refine Rv rfl rfl rfl (U_move rfl) rfl rfl ?_
    refine Rv rfl rfl rfl (U_load1 rfl rfl rfl) rfl rfl ?_
    refine Rv rfl rfl rfl (U_gtr rfl rfl) rfl rfl ?_
    first | refine Rv rfl rfl rfl (U_pick_t rfl rfl) rfl rfl ?_ | refine Rv rfl rfl rfl (U_pick_f rfl rfl) rfl rfl ?_ | refine Rv rfl rfl rfl (U_pick_b rfl rfl rfl) rfl rfl ?_
    refine Rv rfl rfl rfl (U_assign rfl) rfl rfl ?_
    refine Re rfl ?_
    refine thenQ_n ?_
    refine W_ret rfl ?_
    exact ret1 rfl rfl rfl
theorem idxInt_p {f : FuncId} [FnOk Try.prog f] {ca : List AV} (hca : dataL ca) (p : Int → Bool) (l : List Int) (c : Option Nat) (hl : l.length ≤ 1000000) (hp : ∀ x ∈ l, Pure Try.prog f (i64 x :: ca) (.bool (p x))) : Pure Try.prog 113 [intsA l c, .fn f [] ca] (i64 (idxI p l)) := by
  refine pure_of_body Try.func113 (c := body Try.f113) rfl (by simp [Try.ntmps113]) fun w0 Φ0 => ?_
  refine W_seq rfl ?_
  refine W_reg rfl ?_
  refine Rv rfl rfl rfl (U_assign rfl) rfl rfl ?_
  refine Re rfl ?_
  refine thenQ_n ?_
  refine W_seq rfl ?_
  refine W_seq rfl ?_
  refine W_reg rfl ?_
  refine Rv rfl rfl rfl (U_move rfl) rfl rfl ?_
  first | refine Rv rfl rfl rfl (U_lenOf rfl len_ros) rfl rfl ?_ | refine Rv rfl rfl rfl (U_lenOf rfl len_slice) rfl rfl ?_ | refine Rv rfl rfl rfl (U_lenOf rfl len_sliceo) rfl rfl ?_ | refine Rv rfl rfl rfl (U_lenOf rfl len_nils) rfl rfl ?_
  refine Rv rfl rfl rfl (U_move rfl) rfl rfl ?_
  refine Re rfl ?_
  refine thenQ_n ?_
  refine Wless (T' := [(8, i64 ((0 : Nat) : Int)), (7, i64 (l.length : Nat)), (1, .fn f [] ca), (0, intsA l c)]) (H' := []) ⟨rfl, rfl, rfl, rfl, trivial⟩ trivial ?_
  refine W_block rfl ?_
  refine Wloop rfl (fun m s => ∃ k : Nat, k ≤ l.length ∧ m = l.length - k ∧ (∀ j (hj : j < l.length), j < k → p l[j] = false) ∧ s = ⟨[(8, i64 (k : Nat)), (7, i64 (l.length : Nat)), (1, .fn f [] ca), (0, intsA l c)], [], 0, []⟩) (n := l.length) ⟨0, Nat.zero_le _, rfl, by intro j _ h; omega, rfl⟩ ?_
  rintro _ _ ⟨k, hk, rfl, hb, rfl⟩
  refine W_seq rfl ?_
  refine W_reg rfl ?_
  refine Rv rfl rfl rfl (U_lss rfl rfl) rfl rfl ?_
  refine Re rfl ?_
  refine thenQ_n ?_
  refine W_seq rfl ?_
  refine WcondP rfl rfl (fun hc0 => ?_) (fun hc0 => ?_)
  · have hc : k < l.length := by omega
    refine W_skip rfl ?_
    refine thenQ_n ?_
    refine W_seq rfl ?_
    refine W_block rfl ?_
    refine W_seq rfl ?_
    refine W_reg rfl ?_
    refine Rv rfl rfl rfl (U_move rfl) rfl rfl ?_
    refine Rv rfl rfl rfl (U_assign rfl) rfl rfl ?_
    refine Re rfl ?_
    refine thenQ_n ?_
    refine W_seq rfl ?_
    refine W_reg rfl ?_
    refine Rv rfl rfl rfl (U_move rfl) rfl rfl ?_
    refine Rv rfl rfl rfl (U_move rfl) rfl rfl ?_
    refine Rv rfl rfl rfl (U_move rfl) rfl rfl ?_
    refine Rv rfl rfl rfl (U_indexR rfl rfl rfl hc) rfl rfl ?_
    refine Rv rfl rfl rfl (U_load1 rfl rfl (get1 hc)) rfl rfl ?_
    refine Rv rfl rfl rfl (U_call rfl rfl (hp l[k] (List.getElem_mem hc)) (by show dataL (i64 l[k] :: ca); exact dataL_cons.2 ⟨rfl, hca⟩)) rfl rfl ?_
    refine Re rfl ?_
    refine thenQ_n ?_
    refine Wcond rfl rfl (fun hp1 => ?_) (fun hp1 => ?_)
    · refine W_seq rfl ?_
      refine W_reg rfl ?_
      refine Rv rfl rfl rfl (U_move rfl) rfl rfl ?_
      refine Rv rfl rfl rfl (U_assign rfl) rfl rfl ?_
      refine Re rfl ?_
      refine thenQ_n ?_
      refine W_ret rfl ?_
      refine blkQ_r ?_
      refine thenQ_r ?_
      refine thenQ_r ?_
      refine blkQ_r ?_
      refine thenQ_r ?_
      first | exact ret1 rfl (by rw [idx_hit hc (fun j hj h => hb j hj h) hp1]) rfl | exact ret1 rfl (by rw [idx_end (fun j hj => hb j hj (by omega))]) rfl
    · refine W_skip rfl ?_
      refine blkQ_n ?_
      refine thenQ_n ?_
      refine W_reg rfl ?_
      refine Rv rfl rfl rfl (U_add rfl rfl (w64e (m := ((k + 1 : Nat) : Int)) (by omega) (by omega) (by omega))) rfl rfl ?_
      refine Rv rfl rfl rfl (U_move rfl) rfl rfl ?_
      refine Re rfl ?_
      refine thenQ_n ?_
      exact again (l.length - (k + 1)) (by omega) (T' := [(8, i64 ((k + 1 : Nat) : Int)), (7, i64 (l.length : Nat)), (1, .fn f [] ca), (0, intsA l c)]) (H' := []) ⟨rfl, rfl, rfl, rfl, trivial⟩ trivial (⟨k + 1, hc, rfl, fun j hj h => by rcases Nat.lt_succ_iff_lt_or_eq.1 h with h | rfl; exact hb j hj h; exact hp1, rfl⟩)
  · refine W_exit rfl ?_
    refine thenQ_x ?_
    refine thenQ_x ?_
    refine blkQ_x rfl ?_
    refine thenQ_n ?_
    refine W_seq rfl ?_
    refine W_reg rfl ?_
    refine Rv rfl rfl rfl (U_assign rfl) rfl rfl ?_
    refine Re rfl ?_
    refine thenQ_n ?_
    refine W_ret rfl ?_
    first | exact ret1 rfl (by rw [idx_hit hc (fun j hj h => hb j hj h) hp1]) rfl | exact ret1 rfl (by rw [idx_end (fun j hj => hb j hj (by omega))]) rfl
theorem idxEnt_p {f : FuncId} [FnOk Try.prog f] {ca : List AV} (hca : dataL ca) (p : Ent → Bool) (l : List Ent) (c : Option Nat) (hl : l.length ≤ 1000000) (hp : ∀ x ∈ l, Pure Try.prog f (entA x :: ca) (.bool (p x))) : Pure Try.prog 100 [entsA l c, .fn f [] ca] (i64 (idxI p l)) := by
  refine pure_of_body Try.func100 (c := body Try.f100) rfl (by simp [Try.ntmps100]) fun w0 Φ0 => ?_
  refine W_seq rfl ?_
  refine W_reg rfl ?_
  refine Rv rfl rfl rfl (U_assign rfl) rfl rfl ?_
  refine Re rfl ?_
  refine thenQ_n ?_
  refine W_seq rfl ?_
  refine W_seq rfl ?_
  refine W_reg rfl ?_
  refine Rv rfl rfl rfl (U_move rfl) rfl rfl ?_
  first | refine Rv rfl rfl rfl (U_lenOf rfl len_ros) rfl rfl ?_ | refine Rv rfl rfl rfl (U_lenOf rfl len_slice) rfl rfl ?_ | refine Rv rfl rfl rfl (U_lenOf rfl len_sliceo) rfl rfl ?_ | refine Rv rfl rfl rfl (U_lenOf rfl len_nils) rfl rfl ?_
  refine Rv rfl rfl rfl (U_move rfl) rfl rfl ?_
  refine Re rfl ?_
  refine thenQ_n ?_
  refine Wless (T' := [(8, i64 ((0 : Nat) : Int)), (7, i64 (l.length : Nat)), (1, .fn f [] ca), (0, entsA l c)]) (H' := []) ⟨rfl, rfl, rfl, rfl, trivial⟩ trivial ?_
  refine W_block rfl ?_
  refine Wloop rfl (fun m s => ∃ k : Nat, k ≤ l.length ∧ m = l.length - k ∧ (∀ j (hj : j < l.length), j < k → p l[j] = false) ∧ s = ⟨[(8, i64 (k : Nat)), (7, i64 (l.length : Nat)), (1, .fn f [] ca), (0, entsA l c)], [], 0, []⟩) (n := l.length) ⟨0, Nat.zero_le _, rfl, by intro j _ h; omega, rfl⟩ ?_
  rintro _ _ ⟨k, hk, rfl, hb, rfl⟩
  refine W_seq rfl ?_
  refine W_reg rfl ?_
  refine Rv rfl rfl rfl (U_lss rfl rfl) rfl rfl ?_
  refine Re rfl ?_
  refine thenQ_n ?_
  refine W_seq rfl ?_
  refine WcondP rfl rfl (fun hc0 => ?_) (fun hc0 => ?_)
  · have hc : k < l.length := by omega
    refine W_skip rfl ?_
    refine thenQ_n ?_
    refine W_seq rfl ?_
    refine W_block rfl ?_
    refine W_seq rfl ?_
    refine W_reg rfl ?_
    refine Rv rfl rfl rfl (U_move rfl) rfl rfl ?_
    refine Rv rfl rfl rfl (U_assign rfl) rfl rfl ?_
    refine Re rfl ?_
    refine thenQ_n ?_
    refine W_seq rfl ?_
    refine W_reg rfl ?_
    refine Rv rfl rfl rfl (U_move rfl) rfl rfl ?_
    refine Rv rfl rfl rfl (U_move rfl) rfl rfl ?_
    refine Rv rfl rfl rfl (U_move rfl) rfl rfl ?_
    refine Rv rfl rfl rfl (U_indexR rfl rfl rfl hc) rfl rfl ?_
    refine Rv rfl rfl rfl (U_load3 rfl rfl (ent0 hc) (ent1 hc) (ent2 hc)) rfl rfl ?_
    refine Rv rfl rfl rfl (U_call rfl rfl (hp l[k] (List.getElem_mem hc)) (by show dataL (entA l[k] :: ca); exact dataL_cons.2 ⟨rfl, hca⟩)) rfl rfl ?_
    refine Re rfl ?_
    refine thenQ_n ?_
    refine Wcond rfl rfl (fun hp1 => ?_) (fun hp1 => ?_)
    · refine W_seq rfl ?_
      refine W_reg rfl ?_
      refine Rv rfl rfl rfl (U_move rfl) rfl rfl ?_
      refine Rv rfl rfl rfl (U_assign rfl) rfl rfl ?_
      refine Re rfl ?_
      refine thenQ_n ?_
      refine W_ret rfl ?_
      refine blkQ_r ?_
      refine thenQ_r ?_
      refine thenQ_r ?_
      refine blkQ_r ?_
      refine thenQ_r ?_
      first | exact ret1 rfl (by rw [idx_hit hc (fun j hj h => hb j hj h) hp1]) rfl | exact ret1 rfl (by rw [idx_end (fun j hj => hb j hj (by omega))]) rfl
    · refine W_skip rfl ?_
      refine blkQ_n ?_
      refine thenQ_n ?_
      refine W_reg rfl ?_
      refine Rv rfl rfl rfl (U_add rfl rfl (w64e (m := ((k + 1 : Nat) : Int)) (by omega) (by omega) (by omega))) rfl rfl ?_
      refine Rv rfl rfl rfl (U_move rfl) rfl rfl ?_
      refine Re rfl ?_
      refine thenQ_n ?_
      exact again (l.length - (k + 1)) (by omega) (T' := [(8, i64 ((k + 1 : Nat) : Int)), (7, i64 (l.length : Nat)), (1, .fn f [] ca), (0, entsA l c)]) (H' := []) ⟨rfl, rfl, rfl, rfl, trivial⟩ trivial (⟨k + 1, hc, rfl, fun j hj h => by rcases Nat.lt_succ_iff_lt_or_eq.1 h with h | rfl; exact hb j hj h; exact hp1, rfl⟩)
  · refine W_exit rfl ?_
    refine thenQ_x ?_
    refine thenQ_x ?_
    refine blkQ_x rfl ?_
    refine thenQ_n ?_
    refine W_seq rfl ?_
    refine W_reg rfl ?_
    refine Rv rfl rfl rfl (U_assign rfl) rfl rfl ?_
    refine Re rfl ?_
    refine thenQ_n ?_
    refine W_ret rfl ?_
    first | exact ret1 rfl (by rw [idx_hit hc (fun j hj h => hb j hj h) hp1]) rfl | exact ret1 rfl (by rw [idx_end (fun j hj => hb j hj (by omega))]) rfl
theorem anyInt_p {f : FuncId} [FnOk Try.prog f] {ca : List AV} (hca : dataL ca) (p : Int → Bool) (l : List Int) (c : Option Nat) (hl : l.length ≤ 1000000) (hp : ∀ x ∈ l, Pure Try.prog f (i64 x :: ca) (.bool (p x))) : Pure Try.prog 98 [intsA l c, .fn f [] ca] (.bool (l.any p)) := by
  refine pure_of_body Try.func98 (c := body Try.f98) rfl (by simp [Try.ntmps98]) fun w0 Φ0 => ?_
  refine W_seq rfl ?_
  refine W_reg rfl ?_
  refine Rv rfl rfl rfl (U_assign rfl) rfl rfl ?_
  refine Re rfl ?_
  refine thenQ_n ?_
  refine W_seq rfl ?_
  refine W_reg rfl ?_
  refine Rv rfl rfl rfl (U_move rfl) rfl rfl ?_
  refine Rv rfl rfl rfl (U_move rfl) rfl rfl ?_
  refine Rv rfl rfl rfl (U_call rfl rfl (idxInt_p hca p l c hl hp) (by show dataL [intsA l c, .fn f [] ca]; simpa [dataL, isdL, AV.isd] using hca)) rfl rfl ?_
  refine Rv rfl rfl rfl (U_geq rfl rfl) rfl rfl ?_
  refine Rv rfl rfl rfl (U_assign rfl) rfl rfl ?_
  refine Re rfl ?_
  refine thenQ_n ?_
  refine W_ret rfl ?_
  exact ret1 rfl (by rw [← idx_any]) rfl
theorem anyEnt_p {f : FuncId} [FnOk Try.prog f] {ca : List AV} (hca : dataL ca) (p : Ent → Bool) (l : List Ent) (c : Option Nat) (hl : l.length ≤ 1000000) (hp : ∀ x ∈ l, Pure Try.prog f (entA x :: ca) (.bool (p x))) : Pure Try.prog 69 [entsA l c, .fn f [] ca] (.bool (l.any p)) := by
  refine pure_of_body Try.func69 (c := body Try.f69) rfl (by simp [Try.ntmps69]) fun w0 Φ0 => ?_
  refine W_seq rfl ?_
  refine W_reg rfl ?_
  refine Rv rfl rfl rfl (U_assign rfl) rfl rfl ?_
  refine Re rfl ?_
  refine thenQ_n ?_
  refine W_seq rfl ?_
  refine W_reg rfl ?_
  refine Rv rfl rfl rfl (U_move rfl) rfl rfl ?_
  refine Rv rfl rfl rfl (U_move rfl) rfl rfl ?_
  refine Rv rfl rfl rfl (U_call rfl rfl (idxEnt_p hca p l c hl hp) (by show dataL [entsA l c, .fn f [] ca]; simpa [dataL, isdL, AV.isd] using hca)) rfl rfl ?_
  refine Rv rfl rfl rfl (U_geq rfl rfl) rfl rfl ?_
  refine Rv rfl rfl rfl (U_assign rfl) rfl rfl ?_
  refine Re rfl ?_
  refine thenQ_n ?_
  refine W_ret rfl ?_
  exact ret1 rfl (by rw [← idx_any]) rfl
def inL (lo hi : Int) (l : List Int) : Bool := l.all fun n => decide (lo ≤ n) && decide (n ≤ hi)
theorem within_p (lo hi : Int) (l : List Int) (c : Option Nat) (hl : l.length ≤ 1000000) : Pure Try.prog 67 [i64 lo, i64 hi, intsA l c] (.bool (inL lo hi l)) := by
  refine pure_of_body Try.func67 (c := body Try.f67) rfl (by simp [Try.ntmps67]) fun w0 Φ0 => ?_
  refine W_seq rfl ?_
  refine W_reg rfl ?_
  refine Ra rfl rfl rfl (U_box rfl rfl) rfl rfl rfl ?_
  refine Ra rfl rfl rfl (U_box rfl rfl) rfl rfl rfl ?_
  refine Rv rfl rfl rfl (U_assign rfl) rfl rfl ?_
  refine Re rfl ?_
  refine thenQ_n ?_
  refine W_seq rfl ?_
  refine Wfr0 0 rfl rfl ?_
  refine Wfr 1 rfl rfl (T' := [(2, intsA l c), (3, .rop [i64 lo] 0), (4, .rop [i64 hi] 0)]) (H' := []) ⟨rfl, rfl, rfl, trivial⟩ trivial ?_
  refine W_reg rfl ?_
  refine Rv rfl rfl rfl (U_move rfl) rfl rfl ?_
  refine Rv rfl rfl rfl (U_makeFunc rfl rfl) rfl rfl ?_
  refine Rv rfl rfl rfl (U_call rfl rfl (anyInt_p (ca := [.rop [i64 lo] 0, .rop [i64 hi] 0]) rfl (fun n => decide (n < lo) || decide (hi < n)) l c hl fun n _ => out_p n lo hi) rfl) rfl rfl ?_
  refine Rv rfl rfl rfl (U_not rfl) rfl rfl ?_
  refine Rv rfl rfl rfl (U_assign rfl) rfl rfl ?_
  refine Re rfl ?_
  refine thenQ_n ?_
  refine W_ret rfl ?_
  exact ret1 rfl (by congr 1; simp only [inL, List.any_eq_not_all_not, Bool.not_not]; congr 1; funext n; rw [Bool.eq_iff_iff]; simp <;> omega) rfl
end Go.Proofs.Ytapappdgdiaijaa
end

section
/- Contracts of package drift: ranges, and which stars are valid. -/
namespace Go.Proofs.Ytapappdgdiaijaa
open Go.AE
def rangeB (lo hi most : Int) : Bool := decide (lo ≤ hi) && inL (-most) most [lo, hi]
theorem range_p (lo hi most : Int) (hm : 0 ≤ most ∧ most ≤ 1000000) : Pure Try.prog 68 [.agg [i64 lo, i64 hi], i64 most] (.bool (rangeB lo hi most)) := by
  refine pure_of_body Try.func68 (c := body Try.f68) rfl (by simp [Try.ntmps68]) fun w0 Φ0 => ?_
  refine W_seq rfl ?_
  refine W_reg rfl ?_
  refine Ra rfl rfl rfl (U_box rfl rfl) rfl rfl rfl ?_
  refine Rv rfl rfl rfl (U_assign rfl) rfl rfl ?_
  refine Re rfl ?_
  refine thenQ_n ?_
  refine W_seq rfl ?_
  refine W_reg rfl ?_
  first | refine Rv rfl rfl rfl (U_fieldAddr rfl) rfl rfl ?_ | refine Rv rfl rfl rfl (U_fieldAddrR rfl) rfl rfl ?_
  refine Rv rfl rfl rfl (U_load1 rfl rfl rfl) rfl rfl ?_
  first | refine Rv rfl rfl rfl (U_fieldAddr rfl) rfl rfl ?_ | refine Rv rfl rfl rfl (U_fieldAddrR rfl) rfl rfl ?_
  refine Rv rfl rfl rfl (U_load1 rfl rfl rfl) rfl rfl ?_
  refine Rv rfl rfl rfl (U_leq rfl rfl) rfl rfl ?_
  refine Rv rfl rfl rfl (U_move rfl) rfl rfl ?_
  refine Rsplit (t := 10) rfl (fun hg1_5 => ?_) (fun hg1_5 => ?_)
  · rw [hg1_5]
    refine Rv rfl rfl rfl (U_move rfl) rfl rfl ?_
    refine Rv rfl rfl rfl (U_neg rfl (w64 (by omega) (by omega))) rfl rfl ?_
    refine Rv rfl rfl rfl (U_move rfl) rfl rfl ?_
    first | refine Rv rfl rfl rfl (U_fieldAddr rfl) rfl rfl ?_ | refine Rv rfl rfl rfl (U_fieldAddrR rfl) rfl rfl ?_
    refine Rv rfl rfl rfl (U_load1 rfl rfl rfl) rfl rfl ?_
    first | refine Rv rfl rfl rfl (U_fieldAddr rfl) rfl rfl ?_ | refine Rv rfl rfl rfl (U_fieldAddrR rfl) rfl rfl ?_
    refine Rv rfl rfl rfl (U_load1 rfl rfl rfl) rfl rfl ?_
    refine Ra rfl rfl rfl (U_buildSlice (by rfl) (by decide) rfl rfl) rfl rfl rfl ?_
    refine Rfr 1 rfl rfl (T' := [(18, .ros [i64 lo, i64 hi] 2 (some 2)), (10, .bool true), (12, i64 (-most)), (13, i64 most)]) (H' := []) ⟨rfl, rfl, rfl, rfl, trivial⟩ trivial ?_
    refine Rv rfl rfl rfl (U_call rfl rfl (within_p (-most) most [lo, hi] (some 2) (by simp)) rfl) rfl rfl ?_
    first | refine Rv rfl rfl rfl (U_pick_t rfl rfl) rfl rfl ?_ | refine Rv rfl rfl rfl (U_pick_f rfl rfl) rfl rfl ?_ | refine Rv rfl rfl rfl (U_pick_b rfl rfl rfl) rfl rfl ?_
    refine Rv rfl rfl rfl (U_assign rfl) rfl rfl ?_
    refine Re rfl ?_
    refine thenQ_n ?_
    refine W_ret rfl ?_
    first | exact ret1 rfl (by rw [rangeB, hg1_5]; rfl) rfl | exact ret1 rfl (by rw [rangeB, hg1_5]; rfl) rfl
  · rw [hg1_5]
    refine Rs rfl rfl rfl rfl rfl ?_
    refine Rs rfl rfl rfl rfl rfl ?_
    refine Rs rfl rfl rfl rfl rfl ?_
    refine Rs rfl rfl rfl rfl rfl ?_
    refine Rs rfl rfl rfl rfl rfl ?_
    refine Rs rfl rfl rfl rfl rfl ?_
    refine Rs rfl rfl rfl rfl rfl ?_
    refine Rs rfl rfl rfl rfl rfl ?_
    refine Rs rfl rfl rfl rfl rfl ?_
    first | refine Rv rfl rfl rfl (U_pick_t rfl rfl) rfl rfl ?_ | refine Rv rfl rfl rfl (U_pick_f rfl rfl) rfl rfl ?_ | refine Rv rfl rfl rfl (U_pick_b rfl rfl rfl) rfl rfl ?_
    refine Rv rfl rfl rfl (U_assign rfl) rfl rfl ?_
    refine Re rfl ?_
    refine thenQ_n ?_
    refine W_ret rfl ?_
    first | exact ret1 rfl (by rw [rangeB, hg1_5]; rfl) rfl | exact ret1 rfl (by rw [rangeB, hg1_5]; rfl) rfl
def oddB (e : Ent) : Bool := !inL 0 200 [e.y] || !rangeB e.lo e.hi 10000
theorem odd_p (e : Ent) : Pure Try.prog 66 [entA e] (.bool (oddB e)) := by
  refine pure_of_body Try.func66 (c := body Try.f66) rfl (by simp [Try.ntmps66]) fun w0 Φ0 => ?_
  refine W_seq rfl ?_
  refine W_reg rfl ?_
  refine Ra rfl rfl rfl (U_box rfl rfl) rfl rfl rfl ?_
  refine Rv rfl rfl rfl (U_assign rfl) rfl rfl ?_
  refine Re rfl ?_
  refine thenQ_n ?_
  refine W_seq rfl ?_
  refine W_reg rfl ?_
  first | refine Rv rfl rfl rfl (U_fieldAddr rfl) rfl rfl ?_ | refine Rv rfl rfl rfl (U_fieldAddrR rfl) rfl rfl ?_
  refine Rv rfl rfl rfl (U_load1 rfl rfl rfl) rfl rfl ?_
  refine Ra rfl rfl rfl (U_buildSlice (by rfl) (by decide) rfl rfl) rfl rfl rfl ?_
  refine Rfr 1 rfl rfl (T' := [(5, .ros [i64 e.y] 1 (some 1)), (1, .ptr 0 0)]) (H' := [(0, some (.cells [i64 e.y, i64 e.lo, i64 e.hi] 76))]) ⟨rfl, rfl, trivial⟩ ⟨rfl, trivial⟩ ?_
  refine Rv rfl rfl rfl (U_call rfl rfl (within_p 0 200 [e.y] (some 1) (by simp)) rfl) rfl rfl ?_
  refine Rv rfl rfl rfl (U_not rfl) rfl rfl ?_
  refine Rv rfl rfl rfl (U_move rfl) rfl rfl ?_
  refine Rsplit (t := 8) rfl (fun hg1_5 => ?_) (fun hg1_5 => ?_)
  · rw [hg1_5]
    refine Rs rfl rfl rfl rfl rfl ?_
    refine Rs rfl rfl rfl rfl rfl ?_
    refine Rs rfl rfl rfl rfl rfl ?_
    refine Rs rfl rfl rfl rfl rfl ?_
    first | refine Rv rfl rfl rfl (U_pick_t rfl rfl) rfl rfl ?_ | refine Rv rfl rfl rfl (U_pick_f rfl rfl) rfl rfl ?_ | refine Rv rfl rfl rfl (U_pick_b rfl rfl rfl) rfl rfl ?_
    refine Rv rfl rfl rfl (U_assign rfl) rfl rfl ?_
    refine Re rfl ?_
    refine thenQ_n ?_
    refine W_ret rfl ?_
    exact ret1 rfl (by rw [oddB, hg1_5]; rfl) rfl
  · rw [hg1_5]
    first | refine Rv rfl rfl rfl (U_fieldAddr rfl) rfl rfl ?_ | refine Rv rfl rfl rfl (U_fieldAddrR rfl) rfl rfl ?_
    refine Rv rfl rfl rfl (U_load2 rfl rfl rfl rfl) rfl rfl ?_
    refine Rv rfl rfl rfl (U_call rfl rfl (range_p e.lo e.hi 10000 (by omega)) rfl) rfl rfl ?_
    refine Rv rfl rfl rfl (U_not rfl) rfl rfl ?_
    first | refine Rv rfl rfl rfl (U_pick_t rfl rfl) rfl rfl ?_ | refine Rv rfl rfl rfl (U_pick_f rfl rfl) rfl rfl ?_ | refine Rv rfl rfl rfl (U_pick_b rfl rfl rfl) rfl rfl ?_
    refine Rv rfl rfl rfl (U_assign rfl) rfl rfl ?_
    refine Re rfl ?_
    refine thenQ_n ?_
    refine W_ret rfl ?_
    exact ret1 rfl (by rw [oddB, hg1_5]; rfl) rfl
def incr (last : Int) : List Ent → Bool
  | [] => true
  | e :: es => if e.y ≤ last then false else incr e.y es
/-- Which stars are valid. -/
def chkS (s : Star) : Int :=
  if inL 1 12 [(s.es.length : Int)] = false then 6 else if (!rangeB s.lo s.hi 500 || s.es.any oddB) = true then 3 else if incr (-1) s.es then 0 else 16
theorem chk_p (s : Star) (c : Option Nat) (hl : s.es.length ≤ 1000000) : Pure Try.prog 19 [starA s c] (.int .i64 (chkS s)) := by
  refine pure_of_body Try.func19 (c := body Try.f19) rfl (by simp [Try.ntmps19]) fun w0 Φ0 => ?_
  refine W_seq rfl ?_
  refine W_reg rfl ?_
  refine Ra rfl rfl rfl (U_box rfl rfl) rfl rfl rfl ?_
  refine Rv rfl rfl rfl (U_assign rfl) rfl rfl ?_
  refine Re rfl ?_
  refine thenQ_n ?_
  refine W_seq rfl ?_
  refine W_reg rfl ?_
  refine Rv rfl rfl rfl (U_assign rfl) rfl rfl ?_
  refine Re rfl ?_
  refine thenQ_n ?_
  refine W_seq rfl ?_
  refine W_block rfl ?_
  refine W_seq rfl ?_
  refine W_reg rfl ?_
  first | refine Rv rfl rfl rfl (U_fieldAddr rfl) rfl rfl ?_ | refine Rv rfl rfl rfl (U_fieldAddrR rfl) rfl rfl ?_
  refine Rv rfl rfl rfl (U_load1 rfl rfl rfl) rfl rfl ?_
  first | refine Rv rfl rfl rfl (U_lenOf rfl len_ros) rfl rfl ?_ | refine Rv rfl rfl rfl (U_lenOf rfl len_slice) rfl rfl ?_ | refine Rv rfl rfl rfl (U_lenOf rfl len_sliceo) rfl rfl ?_ | refine Rv rfl rfl rfl (U_lenOf rfl len_nils) rfl rfl ?_
  refine Ra rfl rfl rfl (U_buildSlice (by rfl) (by decide) rfl rfl) rfl rfl rfl ?_
  refine Rfr 1 rfl rfl (T' := [(11, .ros [i64 (s.es.length : Int)] 1 (some 1)), (1, .ptr 0 0), (3, .fn 66 [] [])]) (H' := [(0, some (.cells [i64 s.lo, i64 s.hi, entsA s.es c] 26))]) ⟨rfl, rfl, rfl, trivial⟩ ⟨rfl, trivial⟩ ?_
  refine Rv rfl rfl rfl (U_call rfl rfl (within_p 1 12 [(s.es.length : Int)] (some 1) (by simp)) rfl) rfl rfl ?_
  refine Rv rfl rfl rfl (U_not rfl) rfl rfl ?_
  refine Rv rfl rfl rfl (U_assign rfl) rfl rfl ?_
  refine Re rfl ?_
  refine thenQ_n ?_
  refine Wcond rfl rfl (fun hA => ?_) (fun hA => ?_)
  · refine W_seq rfl ?_
    refine W_reg rfl ?_
    refine Rv rfl rfl rfl (U_assign rfl) rfl rfl ?_
    refine Re rfl ?_
    refine thenQ_n ?_
    refine W_ret rfl ?_
    refine blkQ_r ?_
    refine thenQ_r ?_
    first
          | exact ret1 rfl (by rw [chkS, if_pos (by simpa using hA)]) rfl
          | exact ret1 rfl (by rw [chkS, if_neg (by simpa using hA), if_pos hB]) rfl
          | exact ret1 rfl (by rw [if_pos hD] at hi; rw [chkS, if_neg (by simpa using hA), if_neg (by simpa using hB), ← hi]; rfl) rfl
          | exact ret1 rfl (by rw [List.drop_eq_nil_of_le (by omega)] at hi; rw [chkS, if_neg (by simpa using hA), if_neg (by simpa using hB), ← hi]; rfl) rfl
  · refine W_seq rfl ?_
    refine Wjoin ⟨[(14, .bool (!rangeB s.lo s.hi 500 || s.es.any oddB)), (1, .ptr 0 0)], [(0, some (.cells [i64 s.lo, i64 s.hi, entsA s.es c] 26))], 2, []⟩ ?_ ?_
    · refine W_reg rfl ?_
      first | refine Rv rfl rfl rfl (U_fieldAddr rfl) rfl rfl ?_ | refine Rv rfl rfl rfl (U_fieldAddrR rfl) rfl rfl ?_
      refine Rv rfl rfl rfl (U_load2 rfl rfl rfl rfl) rfl rfl ?_
      refine Rv rfl rfl rfl (U_call rfl rfl (range_p s.lo s.hi 500 (by omega)) rfl) rfl rfl ?_
      refine Rv rfl rfl rfl (U_not rfl) rfl rfl ?_
      refine Rv rfl rfl rfl (U_move rfl) rfl rfl ?_
      refine Rsplit (t := 19) rfl (fun hg4_4 => ?_) (fun hg4_4 => ?_)
      · rw [hg4_4]
        refine Rs rfl rfl rfl rfl rfl ?_
        refine Rs rfl rfl rfl rfl rfl ?_
        refine Rs rfl rfl rfl rfl rfl ?_
        refine Rs rfl rfl rfl rfl rfl ?_
        first | refine Rv rfl rfl rfl (U_pick_t rfl rfl) rfl rfl ?_ | refine Rv rfl rfl rfl (U_pick_f rfl rfl) rfl rfl ?_ | refine Rv rfl rfl rfl (U_pick_b rfl rfl rfl) rfl rfl ?_
        refine Rv rfl rfl rfl (U_assign rfl) rfl rfl ?_
        refine Re rfl ?_
        exact joined ⟨rfl, rfl, trivial⟩ ⟨rfl, trivial⟩
      · rw [hg4_4]
        first | refine Rv rfl rfl rfl (U_fieldAddr rfl) rfl rfl ?_ | refine Rv rfl rfl rfl (U_fieldAddrR rfl) rfl rfl ?_
        refine Rv rfl rfl rfl (U_load1 rfl rfl rfl) rfl rfl ?_
        refine Rv rfl rfl rfl (U_move rfl) rfl rfl ?_
        refine Rv rfl rfl rfl (U_call rfl rfl (anyEnt_p (ca := []) rfl oddB s.es c hl fun e _ => odd_p e) rfl) rfl rfl ?_
        first | refine Rv rfl rfl rfl (U_pick_t rfl rfl) rfl rfl ?_ | refine Rv rfl rfl rfl (U_pick_f rfl rfl) rfl rfl ?_ | refine Rv rfl rfl rfl (U_pick_b rfl rfl rfl) rfl rfl ?_
        refine Rv rfl rfl rfl (U_assign rfl) rfl rfl ?_
        refine Re rfl ?_
        exact joined ⟨rfl, rfl, trivial⟩ ⟨rfl, trivial⟩
    refine thenQ_n ?_
    refine Wcond rfl rfl (fun hB => ?_) (fun hB => ?_)
    · refine W_seq rfl ?_
      refine W_reg rfl ?_
      refine Rv rfl rfl rfl (U_assign rfl) rfl rfl ?_
      refine Re rfl ?_
      refine thenQ_n ?_
      refine W_ret rfl ?_
      refine blkQ_r ?_
      refine thenQ_r ?_
      first
            | exact ret1 rfl (by rw [chkS, if_pos (by simpa using hA)]) rfl
            | exact ret1 rfl (by rw [chkS, if_neg (by simpa using hA), if_pos hB]) rfl
            | exact ret1 rfl (by rw [if_pos hD] at hi; rw [chkS, if_neg (by simpa using hA), if_neg (by simpa using hB), ← hi]; rfl) rfl
            | exact ret1 rfl (by rw [List.drop_eq_nil_of_le (by omega)] at hi; rw [chkS, if_neg (by simpa using hA), if_neg (by simpa using hB), ← hi]; rfl) rfl
    · refine W_skip rfl ?_
      refine blkQ_n ?_
      refine thenQ_n ?_
      refine W_seq rfl ?_
      refine W_reg rfl ?_
      refine Rv rfl rfl rfl (U_assign rfl) rfl rfl ?_
      refine Re rfl ?_
      refine thenQ_n ?_
      refine W_seq rfl ?_
      refine W_seq rfl ?_
      refine W_reg rfl ?_
      first | refine Rv rfl rfl rfl (U_fieldAddr rfl) rfl rfl ?_ | refine Rv rfl rfl rfl (U_fieldAddrR rfl) rfl rfl ?_
      refine Rv rfl rfl rfl (U_load1 rfl rfl rfl) rfl rfl ?_
      first | refine Rv rfl rfl rfl (U_lenOf rfl len_ros) rfl rfl ?_ | refine Rv rfl rfl rfl (U_lenOf rfl len_slice) rfl rfl ?_ | refine Rv rfl rfl rfl (U_lenOf rfl len_sliceo) rfl rfl ?_ | refine Rv rfl rfl rfl (U_lenOf rfl len_nils) rfl rfl ?_
      refine Rv rfl rfl rfl (U_move rfl) rfl rfl ?_
      refine Re rfl ?_
      refine thenQ_n ?_
      refine Wshrink (nx' := 1) (T' := [(28, i64 ((0 : Nat) : Int)), (27, i64 (s.es.length : Nat)), (26, entsA s.es c), (4, i64 (-1)), (1, .ptr 0 0)]) (H' := [(0, some (.cells [i64 s.lo, i64 s.hi, entsA s.es c] 26))]) ⟨rfl, rfl, rfl, rfl, rfl, trivial⟩ ⟨rfl, trivial⟩ rfl rfl (by simp) rfl ?_
      refine W_block rfl ?_
      refine Wloop rfl (fun m q => ∃ (k : Nat) (last : Int), k ≤ s.es.length ∧ m = s.es.length - k ∧ incr last (s.es.drop k) = incr (-1) s.es ∧ q = ⟨[(28, i64 (k : Nat)), (27, i64 (s.es.length : Nat)), (26, entsA s.es c), (4, i64 last), (1, .ptr 0 0)], [(0, some (.cells [i64 s.lo, i64 s.hi, entsA s.es c] 26))], 1, []⟩) (n := s.es.length) ⟨0, -1, Nat.zero_le _, rfl, by simp, rfl⟩ ?_
      rintro _ _ ⟨k, last, hk, rfl, hi, rfl⟩
      refine W_seq rfl ?_
      refine W_reg rfl ?_
      refine Rv rfl rfl rfl (U_lss rfl rfl) rfl rfl ?_
      refine Re rfl ?_
      refine thenQ_n ?_
      refine W_seq rfl ?_
      refine WcondP rfl rfl (fun hc0 => ?_) (fun hc0 => ?_)
      · have hc : k < s.es.length := by omega
        rw [List.drop_eq_getElem_cons hc, incr] at hi
        refine W_skip rfl ?_
        refine thenQ_n ?_
        refine W_seq rfl ?_
        refine W_block rfl ?_
        refine W_seq rfl ?_
        refine W_reg rfl ?_
        refine Rv rfl rfl rfl (U_indexR rfl rfl rfl hc) rfl rfl ?_
        refine Rv rfl rfl rfl (U_load3 rfl rfl (ent0 hc) (ent1 hc) (ent2 hc)) rfl rfl ?_
        refine Ra rfl rfl rfl (U_alloc) rfl rfl rfl ?_
        first | refine Rn rfl rfl rfl (U_storeAll rfl rfl rfl rfl rfl rfl) rfl ?_ | refine Rn rfl rfl rfl (U_store rfl rfl rfl rfl rfl (by decide) rfl rfl) rfl ?_
        refine Re rfl ?_
        refine thenQ_n ?_
        refine W_seq rfl ?_
        refine W_seq rfl ?_
        refine W_reg rfl ?_
        first | refine Rv rfl rfl rfl (U_fieldAddr rfl) rfl rfl ?_ | refine Rv rfl rfl rfl (U_fieldAddrR rfl) rfl rfl ?_
        refine Rv rfl rfl rfl (U_load1 rfl rfl rfl) rfl rfl ?_
        refine Rv rfl rfl rfl (U_move rfl) rfl rfl ?_
        refine Rv rfl rfl rfl (U_leq rfl rfl) rfl rfl ?_
        refine Re rfl ?_
        refine thenQ_n ?_
        refine WcondP rfl rfl (fun hD => ?_) (fun hD => ?_)
        · refine W_seq rfl ?_
          refine W_reg rfl ?_
          refine Rv rfl rfl rfl (U_assign rfl) rfl rfl ?_
          refine Re rfl ?_
          refine thenQ_n ?_
          refine W_ret rfl ?_
          refine thenQ_r ?_
          refine blkQ_r ?_
          refine thenQ_r ?_
          refine thenQ_r ?_
          refine blkQ_r ?_
          refine thenQ_r ?_
          first
                | exact ret1 rfl (by rw [chkS, if_pos (by simpa using hA)]) rfl
                | exact ret1 rfl (by rw [chkS, if_neg (by simpa using hA), if_pos hB]) rfl
                | exact ret1 rfl (by rw [if_pos hD] at hi; rw [chkS, if_neg (by simpa using hA), if_neg (by simpa using hB), ← hi]; rfl) rfl
                | exact ret1 rfl (by rw [List.drop_eq_nil_of_le (by omega)] at hi; rw [chkS, if_neg (by simpa using hA), if_neg (by simpa using hB), ← hi]; rfl) rfl
        · refine W_skip rfl ?_
          refine thenQ_n ?_
          refine W_reg rfl ?_
          first | refine Rv rfl rfl rfl (U_fieldAddr rfl) rfl rfl ?_ | refine Rv rfl rfl rfl (U_fieldAddrR rfl) rfl rfl ?_
          refine Rv rfl rfl rfl (U_load1 rfl rfl rfl) rfl rfl ?_
          refine Rv rfl rfl rfl (U_assign rfl) rfl rfl ?_
          refine Re rfl ?_
          refine blkQ_n ?_
          refine thenQ_n ?_
          refine W_reg rfl ?_
          refine Rv rfl rfl rfl (U_add rfl rfl (w64e (m := ((k + 1 : Nat) : Int)) (by omega) (by omega) (by omega))) rfl rfl ?_
          refine Rv rfl rfl rfl (U_move rfl) rfl rfl ?_
          refine Re rfl ?_
          refine thenQ_n ?_
          exact againS (nx' := 1) (s.es.length - (k + 1)) (by omega) (T' := [(28, i64 ((k + 1 : Nat) : Int)), (27, i64 (s.es.length : Nat)), (26, entsA s.es c), (4, i64 s.es[k].y), (1, .ptr 0 0)]) (H' := [(0, some (.cells [i64 s.lo, i64 s.hi, entsA s.es c] 26))]) ⟨rfl, rfl, rfl, rfl, rfl, trivial⟩ ⟨rfl, trivial⟩ rfl rfl (by simp) rfl (⟨k + 1, _, hc, rfl, by rw [← hi, if_neg hD], rfl⟩)
      · refine W_exit rfl ?_
        refine thenQ_x ?_
        refine thenQ_x ?_
        refine blkQ_x rfl ?_
        refine thenQ_n ?_
        refine W_seq rfl ?_
        refine W_reg rfl ?_
        refine Rv rfl rfl rfl (U_assign rfl) rfl rfl ?_
        refine Re rfl ?_
        refine thenQ_n ?_
        refine W_ret rfl ?_
        first
              | exact ret1 rfl (by rw [chkS, if_pos (by simpa using hA)]) rfl
              | exact ret1 rfl (by rw [chkS, if_neg (by simpa using hA), if_pos hB]) rfl
              | exact ret1 rfl (by rw [if_pos hD] at hi; rw [chkS, if_neg (by simpa using hA), if_neg (by simpa using hB), ← hi]; rfl) rfl
              | exact ret1 rfl (by rw [List.drop_eq_nil_of_le (by omega)] at hi; rw [chkS, if_neg (by simpa using hA), if_neg (by simpa using hB), ← hi]; rfl) rfl
end Go.Proofs.Ytapappdgdiaijaa
end

section
/- Contracts of package drift: cards, bounds, and numbers. -/
namespace Go.Proofs.Ytapappdgdiaijaa
open Go.AE
theorem less_p (a b : Int × Int) (h1 : -9000000000000000000 ≤ a.1 * b.2 ∧ a.1 * b.2 ≤ 9000000000000000000) (h2 : -9000000000000000000 ≤ b.1 * a.2 ∧ b.1 * a.2 ≤ 9000000000000000000) : Pure Try.prog 82 [ratA a, ratA b] (.bool (lessQ a b)) := by
  refine pure_of_body Try.func82 (c := body Try.f82) rfl (by simp [Try.ntmps82]) fun w0 Φ0 => ?_
  refine W_seq rfl ?_
  refine W_reg rfl ?_
  refine Ra rfl rfl rfl (U_box rfl rfl) rfl rfl rfl ?_
  refine Ra rfl rfl rfl (U_box rfl rfl) rfl rfl rfl ?_
  refine Rv rfl rfl rfl (U_assign rfl) rfl rfl ?_
  refine Re rfl ?_
  refine thenQ_n ?_
  refine W_seq rfl ?_
  refine W_reg rfl ?_
  first | refine Rv rfl rfl rfl (U_fieldAddr rfl) rfl rfl ?_ | refine Rv rfl rfl rfl (U_fieldAddrR rfl) rfl rfl ?_
  refine Rv rfl rfl rfl (U_load1 rfl rfl rfl) rfl rfl ?_
  first | refine Rv rfl rfl rfl (U_fieldAddr rfl) rfl rfl ?_ | refine Rv rfl rfl rfl (U_fieldAddrR rfl) rfl rfl ?_
  refine Rv rfl rfl rfl (U_load1 rfl rfl rfl) rfl rfl ?_
  refine Rv rfl rfl rfl (U_mul rfl rfl (w64 (by omega) (by omega))) rfl rfl ?_
  first | refine Rv rfl rfl rfl (U_fieldAddr rfl) rfl rfl ?_ | refine Rv rfl rfl rfl (U_fieldAddrR rfl) rfl rfl ?_
  refine Rv rfl rfl rfl (U_load1 rfl rfl rfl) rfl rfl ?_
  first | refine Rv rfl rfl rfl (U_fieldAddr rfl) rfl rfl ?_ | refine Rv rfl rfl rfl (U_fieldAddrR rfl) rfl rfl ?_
  refine Rv rfl rfl rfl (U_load1 rfl rfl rfl) rfl rfl ?_
  refine Rv rfl rfl rfl (U_mul rfl rfl (w64 (by omega) (by omega))) rfl rfl ?_
  refine Rv rfl rfl rfl (U_lss rfl rfl) rfl rfl ?_
  refine Rv rfl rfl rfl (U_assign rfl) rfl rfl ?_
  refine Re rfl ?_
  refine thenQ_n ?_
  refine W_ret rfl ?_
  exact ret1 rfl rfl rfl
theorem first_p (a b : Int) (is : Bool) : Pure Try.prog 102 [i64 a, i64 b, .bool is] (i64 (if is = true then a else b)) := by
  refine pure_of_body Try.func102 (c := body Try.f102) rfl (by simp [Try.ntmps102]) fun w0 Φ0 => ?_
  refine W_seq rfl ?_
  refine W_reg rfl ?_
  refine Rv rfl rfl rfl (U_assign rfl) rfl rfl ?_
  refine Re rfl ?_
  refine thenQ_n ?_
  refine W_seq rfl ?_
  refine W_seq rfl ?_
  refine W_reg rfl ?_
  refine Rv rfl rfl rfl (U_move rfl) rfl rfl ?_
  refine Re rfl ?_
  refine thenQ_n ?_
  refine Wcond rfl rfl (fun hb => ?_) (fun hb => ?_)
  · refine W_seq rfl ?_
    refine W_reg rfl ?_
    refine Rv rfl rfl rfl (U_move rfl) rfl rfl ?_
    refine Rv rfl rfl rfl (U_assign rfl) rfl rfl ?_
    refine Re rfl ?_
    refine thenQ_n ?_
    refine W_ret rfl ?_
    refine thenQ_r ?_
    exact ret1 rfl (by rw [hb]; rfl) rfl
  · refine W_skip rfl ?_
    refine thenQ_n ?_
    refine W_seq rfl ?_
    refine W_reg rfl ?_
    refine Rv rfl rfl rfl (U_move rfl) rfl rfl ?_
    refine Rv rfl rfl rfl (U_assign rfl) rfl rfl ?_
    refine Re rfl ?_
    refine thenQ_n ?_
    refine W_ret rfl ?_
    exact ret1 rfl (by rw [hb]; rfl) rfl
theorem open_p (s : Star) (c : Option Nat) (hl : s.es.length ≤ 1000000) : Pure Try.prog 73 [starA s c] (.tup [if chkS s = 0 then cardA s c else .nilp, i64 (chkS s)]) := by
  refine pure_of_body Try.func73 (c := body Try.f73) rfl (by simp [Try.ntmps73]) fun w0 Φ0 => ?_
  refine W_seq rfl ?_
  refine W_reg rfl ?_
  refine Ra rfl rfl rfl (U_box rfl rfl) rfl rfl rfl ?_
  refine Rv rfl rfl rfl (U_assign rfl) rfl rfl ?_
  refine Rv rfl rfl rfl (U_assign rfl) rfl rfl ?_
  refine Re rfl ?_
  refine thenQ_n ?_
  refine W_seq rfl ?_
  refine W_seq rfl ?_
  refine W_reg rfl ?_
  refine Rv rfl rfl rfl (U_load3 rfl rfl rfl rfl rfl) rfl rfl ?_
  refine Rv rfl rfl rfl (U_call rfl rfl (chk_p s c hl) rfl) rfl rfl ?_
  refine Rv rfl rfl rfl (U_assign rfl) rfl rfl ?_
  refine Re rfl ?_
  refine thenQ_n ?_
  refine W_seq rfl ?_
  refine W_reg rfl ?_
  refine Rv rfl rfl rfl (U_move rfl) rfl rfl ?_
  first | refine Rv rfl rfl rfl (U_neq rfl rfl) rfl rfl ?_ | refine Rv rfl rfl rfl (U_neqA rfl rfl rfl rfl rfl rfl Iff.rfl) rfl rfl ?_ | refine Rv rfl rfl rfl (U_neqB rfl rfl) rfl rfl ?_
  refine Re rfl ?_
  refine thenQ_n ?_
  refine WcondP rfl rfl (fun h0 => ?_) (fun h0 => ?_)
  · rw [if_neg h0]
    refine W_seq rfl ?_
    refine W_reg rfl ?_
    refine Rv rfl rfl rfl (U_move rfl) rfl rfl ?_
    refine Rv rfl rfl rfl (U_assign rfl) rfl rfl ?_
    refine Rv rfl rfl rfl (U_assign rfl) rfl rfl ?_
    refine Re rfl ?_
    refine thenQ_n ?_
    refine W_ret rfl ?_
    refine thenQ_r ?_
    first | exact retL (rlT rfl (rlT rfl rl0)) rfl rfl | exact retL (rlT rfl (rlT rfl rl0)) (by rw [h0]; rfl) rfl
  · rw [Decidable.not_not] at h0
    rw [if_pos h0]
    refine W_skip rfl ?_
    refine thenQ_n ?_
    refine W_seq rfl ?_
    refine W_reg rfl ?_
    refine Rv rfl rfl rfl (U_load3 rfl rfl rfl rfl rfl) rfl rfl ?_
    refine Rv rfl rfl rfl (U_build rfl rfl) rfl rfl ?_
    refine Ra rfl rfl rfl (U_box rfl rfl) rfl rfl rfl ?_
    refine Rv rfl rfl rfl (U_assign rfl) rfl rfl ?_
    refine Rv rfl rfl rfl (U_assign rfl) rfl rfl ?_
    refine Re rfl ?_
    refine thenQ_n ?_
    refine Wfr 1 rfl rfl (T' := [(2, cardA s c), (3, i64 0)]) (H' := []) ⟨rfl, rfl, trivial⟩ trivial ?_
    refine W_ret rfl ?_
    first | exact retL (rlT rfl (rlT rfl rl0)) rfl rfl | exact retL (rlT rfl (rlT rfl rl0)) (by rw [h0]; rfl) rfl
abbrev pairA (p : Int × Int) : AV := .agg [i64 p.1, i64 p.2]
def isPairB (n : Nat) (p : Int × Int) : Bool := (decide (p.1 = -1) && decide (p.2 = -1)) || ((decide (0 ≤ p.1) && decide (p.1 < p.2)) && decide (p.2 < n))
theorem isPair_p (s : Star) (c : Option Nat) (e l : Int) : Pure Try.prog 74 [cardA s c, i64 e, i64 l] (.bool (isPairB s.es.length (e, l))) := by
  refine pure_of_body Try.func74 (c := body Try.f74) rfl (by simp [Try.ntmps74]) fun w0 Φ0 => ?_
  refine W_seq rfl ?_
  refine W_reg rfl ?_
  refine Rv rfl rfl rfl (U_assign rfl) rfl rfl ?_
  refine Re rfl ?_
  refine thenQ_n ?_
  refine W_seq rfl ?_
  refine W_reg rfl ?_
  refine Rv rfl rfl rfl (U_move rfl) rfl rfl ?_
  first | refine Rv rfl rfl rfl (U_eql rfl rfl) rfl rfl ?_ | refine Rv rfl rfl rfl (U_eqlA rfl rfl rfl rfl rfl rfl Iff.rfl) rfl rfl ?_ | refine Rv rfl rfl rfl (U_eqlB rfl rfl) rfl rfl ?_
  refine Rv rfl rfl rfl (U_move rfl) rfl rfl ?_
  refine Rsplit (t := 9) rfl (fun hg1_2 => ?_) (fun hg1_2 => ?_)
  · first
    | (cases hg1_2; done)
    | rw [hg1_2]
      refine Rv rfl rfl rfl (U_move rfl) rfl rfl ?_
      first | refine Rv rfl rfl rfl (U_eql rfl rfl) rfl rfl ?_ | refine Rv rfl rfl rfl (U_eqlA rfl rfl rfl rfl rfl rfl Iff.rfl) rfl rfl ?_ | refine Rv rfl rfl rfl (U_eqlB rfl rfl) rfl rfl ?_
      first | refine Rv rfl rfl rfl (U_pick_t rfl rfl) rfl rfl ?_ | refine Rv rfl rfl rfl (U_pick_f rfl rfl) rfl rfl ?_ | refine Rv rfl rfl rfl (U_pick_b rfl rfl rfl) rfl rfl ?_
      refine Rv rfl rfl rfl (U_move rfl) rfl rfl ?_
      refine Rsplit (t := 13) rfl (fun hg1_6 => ?_) (fun hg1_6 => ?_)
      · first
        | (cases hg1_6; done)
        | rw [hg1_6]
          refine Rs rfl rfl rfl rfl rfl ?_
          refine Rs rfl rfl rfl rfl rfl ?_
          refine Rs rfl rfl rfl rfl rfl ?_
          refine Rs rfl rfl rfl rfl rfl ?_
          refine Rs rfl rfl rfl rfl rfl ?_
          refine Rs rfl rfl rfl rfl rfl ?_
          refine Rs rfl rfl rfl rfl rfl ?_
          refine Rs rfl rfl rfl rfl rfl ?_
          refine Rs rfl rfl rfl rfl rfl ?_
          refine Rs rfl rfl rfl rfl rfl ?_
          refine Rs rfl rfl rfl rfl rfl ?_
          refine Rs rfl rfl rfl rfl rfl ?_
          refine Rs rfl rfl rfl rfl rfl ?_
          refine Rs rfl rfl rfl rfl rfl ?_
          refine Rs rfl rfl rfl rfl rfl ?_
          refine Rs rfl rfl rfl rfl rfl ?_
          refine Rs rfl rfl rfl rfl rfl ?_
          first | refine Rv rfl rfl rfl (U_pick_t rfl rfl) rfl rfl ?_ | refine Rv rfl rfl rfl (U_pick_f rfl rfl) rfl rfl ?_ | refine Rv rfl rfl rfl (U_pick_b rfl rfl rfl) rfl rfl ?_
          refine Rv rfl rfl rfl (U_assign rfl) rfl rfl ?_
          refine Re rfl ?_
          refine thenQ_n ?_
          refine W_ret rfl ?_
          exact ret1 rfl (by simp_all [isPairB] <;> intros <;> omega) rfl
      · first
        | (cases hg1_6; done)
        | rw [hg1_6]
          refine Rv rfl rfl rfl (U_move rfl) rfl rfl ?_
          refine Rv rfl rfl rfl (U_geq rfl rfl) rfl rfl ?_
          refine Rv rfl rfl rfl (U_move rfl) rfl rfl ?_
          refine Rsplit (t := 16) rfl (fun hg1_9 => ?_) (fun hg1_9 => ?_)
          · first
            | (cases hg1_9; done)
            | rw [hg1_9]
              refine Rv rfl rfl rfl (U_move rfl) rfl rfl ?_
              refine Rv rfl rfl rfl (U_move rfl) rfl rfl ?_
              refine Rv rfl rfl rfl (U_lss rfl rfl) rfl rfl ?_
              first | refine Rv rfl rfl rfl (U_pick_t rfl rfl) rfl rfl ?_ | refine Rv rfl rfl rfl (U_pick_f rfl rfl) rfl rfl ?_ | refine Rv rfl rfl rfl (U_pick_b rfl rfl rfl) rfl rfl ?_
              refine Rv rfl rfl rfl (U_move rfl) rfl rfl ?_
              refine Rsplit (t := 21) rfl (fun hg1_14 => ?_) (fun hg1_14 => ?_)
              · first
                | (cases hg1_14; done)
                | rw [hg1_14]
                  refine Rv rfl rfl rfl (U_move rfl) rfl rfl ?_
                  refine Rv rfl rfl rfl (U_move rfl) rfl rfl ?_
                  first | refine Rv rfl rfl rfl (U_nilCheckR rfl) rfl rfl ?_ | refine Rv rfl rfl rfl (U_nilCheck rfl) rfl rfl ?_ | refine Rv rfl rfl rfl (U_nilCheckF rfl) rfl rfl ?_
                  first | refine Rv rfl rfl rfl (U_fieldAddr rfl) rfl rfl ?_ | refine Rv rfl rfl rfl (U_fieldAddrR rfl) rfl rfl ?_
                  first | refine Rv rfl rfl rfl (U_fieldAddr rfl) rfl rfl ?_ | refine Rv rfl rfl rfl (U_fieldAddrR rfl) rfl rfl ?_
                  refine Rv rfl rfl rfl (U_load1 rfl rfl rfl) rfl rfl ?_
                  first | refine Rv rfl rfl rfl (U_lenOf rfl len_ros) rfl rfl ?_ | refine Rv rfl rfl rfl (U_lenOf rfl len_slice) rfl rfl ?_ | refine Rv rfl rfl rfl (U_lenOf rfl len_sliceo) rfl rfl ?_ | refine Rv rfl rfl rfl (U_lenOf rfl len_nils) rfl rfl ?_
                  refine Rv rfl rfl rfl (U_lss rfl rfl) rfl rfl ?_
                  first | refine Rv rfl rfl rfl (U_pick_t rfl rfl) rfl rfl ?_ | refine Rv rfl rfl rfl (U_pick_f rfl rfl) rfl rfl ?_ | refine Rv rfl rfl rfl (U_pick_b rfl rfl rfl) rfl rfl ?_
                  first | refine Rv rfl rfl rfl (U_pick_t rfl rfl) rfl rfl ?_ | refine Rv rfl rfl rfl (U_pick_f rfl rfl) rfl rfl ?_ | refine Rv rfl rfl rfl (U_pick_b rfl rfl rfl) rfl rfl ?_
                  refine Rv rfl rfl rfl (U_assign rfl) rfl rfl ?_
                  refine Re rfl ?_
                  refine thenQ_n ?_
                  refine W_ret rfl ?_
                  exact ret1 rfl (by simp_all [isPairB] <;> intros <;> omega) rfl
              · first
                | (cases hg1_14; done)
                | rw [hg1_14]
                  refine Rs rfl rfl rfl rfl rfl ?_
                  refine Rs rfl rfl rfl rfl rfl ?_
                  refine Rs rfl rfl rfl rfl rfl ?_
                  refine Rs rfl rfl rfl rfl rfl ?_
                  refine Rs rfl rfl rfl rfl rfl ?_
                  refine Rs rfl rfl rfl rfl rfl ?_
                  refine Rs rfl rfl rfl rfl rfl ?_
                  refine Rs rfl rfl rfl rfl rfl ?_
                  first | refine Rv rfl rfl rfl (U_pick_t rfl rfl) rfl rfl ?_ | refine Rv rfl rfl rfl (U_pick_f rfl rfl) rfl rfl ?_ | refine Rv rfl rfl rfl (U_pick_b rfl rfl rfl) rfl rfl ?_
                  first | refine Rv rfl rfl rfl (U_pick_t rfl rfl) rfl rfl ?_ | refine Rv rfl rfl rfl (U_pick_f rfl rfl) rfl rfl ?_ | refine Rv rfl rfl rfl (U_pick_b rfl rfl rfl) rfl rfl ?_
                  refine Rv rfl rfl rfl (U_assign rfl) rfl rfl ?_
                  refine Re rfl ?_
                  refine thenQ_n ?_
                  refine W_ret rfl ?_
                  exact ret1 rfl (by simp_all [isPairB] <;> intros <;> omega) rfl
          · first
            | (cases hg1_9; done)
            | rw [hg1_9]
              refine Rs rfl rfl rfl rfl rfl ?_
              refine Rs rfl rfl rfl rfl rfl ?_
              refine Rs rfl rfl rfl rfl rfl ?_
              first | refine Rv rfl rfl rfl (U_pick_t rfl rfl) rfl rfl ?_ | refine Rv rfl rfl rfl (U_pick_f rfl rfl) rfl rfl ?_ | refine Rv rfl rfl rfl (U_pick_b rfl rfl rfl) rfl rfl ?_
              refine Rv rfl rfl rfl (U_move rfl) rfl rfl ?_
              refine Rsplit (t := 21) rfl (fun hg1_14 => ?_) (fun hg1_14 => ?_)
              · first
                | (cases hg1_14; done)
                | rw [hg1_14]
                  refine Rv rfl rfl rfl (U_move rfl) rfl rfl ?_
                  refine Rv rfl rfl rfl (U_move rfl) rfl rfl ?_
                  first | refine Rv rfl rfl rfl (U_nilCheckR rfl) rfl rfl ?_ | refine Rv rfl rfl rfl (U_nilCheck rfl) rfl rfl ?_ | refine Rv rfl rfl rfl (U_nilCheckF rfl) rfl rfl ?_
                  first | refine Rv rfl rfl rfl (U_fieldAddr rfl) rfl rfl ?_ | refine Rv rfl rfl rfl (U_fieldAddrR rfl) rfl rfl ?_
                  first | refine Rv rfl rfl rfl (U_fieldAddr rfl) rfl rfl ?_ | refine Rv rfl rfl rfl (U_fieldAddrR rfl) rfl rfl ?_
                  refine Rv rfl rfl rfl (U_load1 rfl rfl rfl) rfl rfl ?_
                  first | refine Rv rfl rfl rfl (U_lenOf rfl len_ros) rfl rfl ?_ | refine Rv rfl rfl rfl (U_lenOf rfl len_slice) rfl rfl ?_ | refine Rv rfl rfl rfl (U_lenOf rfl len_sliceo) rfl rfl ?_ | refine Rv rfl rfl rfl (U_lenOf rfl len_nils) rfl rfl ?_
                  refine Rv rfl rfl rfl (U_lss rfl rfl) rfl rfl ?_
                  first | refine Rv rfl rfl rfl (U_pick_t rfl rfl) rfl rfl ?_ | refine Rv rfl rfl rfl (U_pick_f rfl rfl) rfl rfl ?_ | refine Rv rfl rfl rfl (U_pick_b rfl rfl rfl) rfl rfl ?_
                  first | refine Rv rfl rfl rfl (U_pick_t rfl rfl) rfl rfl ?_ | refine Rv rfl rfl rfl (U_pick_f rfl rfl) rfl rfl ?_ | refine Rv rfl rfl rfl (U_pick_b rfl rfl rfl) rfl rfl ?_
                  refine Rv rfl rfl rfl (U_assign rfl) rfl rfl ?_
                  refine Re rfl ?_
                  refine thenQ_n ?_
                  refine W_ret rfl ?_
                  exact ret1 rfl (by simp_all [isPairB] <;> intros <;> omega) rfl
              · first
                | (cases hg1_14; done)
                | rw [hg1_14]
                  refine Rs rfl rfl rfl rfl rfl ?_
                  refine Rs rfl rfl rfl rfl rfl ?_
                  refine Rs rfl rfl rfl rfl rfl ?_
                  refine Rs rfl rfl rfl rfl rfl ?_
                  refine Rs rfl rfl rfl rfl rfl ?_
                  refine Rs rfl rfl rfl rfl rfl ?_
                  refine Rs rfl rfl rfl rfl rfl ?_
                  refine Rs rfl rfl rfl rfl rfl ?_
                  first | refine Rv rfl rfl rfl (U_pick_t rfl rfl) rfl rfl ?_ | refine Rv rfl rfl rfl (U_pick_f rfl rfl) rfl rfl ?_ | refine Rv rfl rfl rfl (U_pick_b rfl rfl rfl) rfl rfl ?_
                  first | refine Rv rfl rfl rfl (U_pick_t rfl rfl) rfl rfl ?_ | refine Rv rfl rfl rfl (U_pick_f rfl rfl) rfl rfl ?_ | refine Rv rfl rfl rfl (U_pick_b rfl rfl rfl) rfl rfl ?_
                  refine Rv rfl rfl rfl (U_assign rfl) rfl rfl ?_
                  refine Re rfl ?_
                  refine thenQ_n ?_
                  refine W_ret rfl ?_
                  exact ret1 rfl (by simp_all [isPairB] <;> intros <;> omega) rfl
  · first
    | (cases hg1_2; done)
    | rw [hg1_2]
      refine Rs rfl rfl rfl rfl rfl ?_
      refine Rs rfl rfl rfl rfl rfl ?_
      first | refine Rv rfl rfl rfl (U_pick_t rfl rfl) rfl rfl ?_ | refine Rv rfl rfl rfl (U_pick_f rfl rfl) rfl rfl ?_ | refine Rv rfl rfl rfl (U_pick_b rfl rfl rfl) rfl rfl ?_
      refine Rv rfl rfl rfl (U_move rfl) rfl rfl ?_
      refine Rsplit (t := 13) rfl (fun hg1_6 => ?_) (fun hg1_6 => ?_)
      · first
        | (cases hg1_6; done)
        | rw [hg1_6]
          refine Rs rfl rfl rfl rfl rfl ?_
          refine Rs rfl rfl rfl rfl rfl ?_
          refine Rs rfl rfl rfl rfl rfl ?_
          refine Rs rfl rfl rfl rfl rfl ?_
          refine Rs rfl rfl rfl rfl rfl ?_
          refine Rs rfl rfl rfl rfl rfl ?_
          refine Rs rfl rfl rfl rfl rfl ?_
          refine Rs rfl rfl rfl rfl rfl ?_
          refine Rs rfl rfl rfl rfl rfl ?_
          refine Rs rfl rfl rfl rfl rfl ?_
          refine Rs rfl rfl rfl rfl rfl ?_
          refine Rs rfl rfl rfl rfl rfl ?_
          refine Rs rfl rfl rfl rfl rfl ?_
          refine Rs rfl rfl rfl rfl rfl ?_
          refine Rs rfl rfl rfl rfl rfl ?_
          refine Rs rfl rfl rfl rfl rfl ?_
          refine Rs rfl rfl rfl rfl rfl ?_
          first | refine Rv rfl rfl rfl (U_pick_t rfl rfl) rfl rfl ?_ | refine Rv rfl rfl rfl (U_pick_f rfl rfl) rfl rfl ?_ | refine Rv rfl rfl rfl (U_pick_b rfl rfl rfl) rfl rfl ?_
          refine Rv rfl rfl rfl (U_assign rfl) rfl rfl ?_
          refine Re rfl ?_
          refine thenQ_n ?_
          refine W_ret rfl ?_
          exact ret1 rfl (by simp_all [isPairB] <;> intros <;> omega) rfl
      · first
        | (cases hg1_6; done)
        | rw [hg1_6]
          refine Rv rfl rfl rfl (U_move rfl) rfl rfl ?_
          refine Rv rfl rfl rfl (U_geq rfl rfl) rfl rfl ?_
          refine Rv rfl rfl rfl (U_move rfl) rfl rfl ?_
          refine Rsplit (t := 16) rfl (fun hg1_9 => ?_) (fun hg1_9 => ?_)
          · first
            | (cases hg1_9; done)
            | rw [hg1_9]
              refine Rv rfl rfl rfl (U_move rfl) rfl rfl ?_
              refine Rv rfl rfl rfl (U_move rfl) rfl rfl ?_
              refine Rv rfl rfl rfl (U_lss rfl rfl) rfl rfl ?_
              first | refine Rv rfl rfl rfl (U_pick_t rfl rfl) rfl rfl ?_ | refine Rv rfl rfl rfl (U_pick_f rfl rfl) rfl rfl ?_ | refine Rv rfl rfl rfl (U_pick_b rfl rfl rfl) rfl rfl ?_
              refine Rv rfl rfl rfl (U_move rfl) rfl rfl ?_
              refine Rsplit (t := 21) rfl (fun hg1_14 => ?_) (fun hg1_14 => ?_)
              · first
                | (cases hg1_14; done)
                | rw [hg1_14]
                  refine Rv rfl rfl rfl (U_move rfl) rfl rfl ?_
                  refine Rv rfl rfl rfl (U_move rfl) rfl rfl ?_
                  first | refine Rv rfl rfl rfl (U_nilCheckR rfl) rfl rfl ?_ | refine Rv rfl rfl rfl (U_nilCheck rfl) rfl rfl ?_ | refine Rv rfl rfl rfl (U_nilCheckF rfl) rfl rfl ?_
                  first | refine Rv rfl rfl rfl (U_fieldAddr rfl) rfl rfl ?_ | refine Rv rfl rfl rfl (U_fieldAddrR rfl) rfl rfl ?_
                  first | refine Rv rfl rfl rfl (U_fieldAddr rfl) rfl rfl ?_ | refine Rv rfl rfl rfl (U_fieldAddrR rfl) rfl rfl ?_
                  refine Rv rfl rfl rfl (U_load1 rfl rfl rfl) rfl rfl ?_
                  first | refine Rv rfl rfl rfl (U_lenOf rfl len_ros) rfl rfl ?_ | refine Rv rfl rfl rfl (U_lenOf rfl len_slice) rfl rfl ?_ | refine Rv rfl rfl rfl (U_lenOf rfl len_sliceo) rfl rfl ?_ | refine Rv rfl rfl rfl (U_lenOf rfl len_nils) rfl rfl ?_
                  refine Rv rfl rfl rfl (U_lss rfl rfl) rfl rfl ?_
                  first | refine Rv rfl rfl rfl (U_pick_t rfl rfl) rfl rfl ?_ | refine Rv rfl rfl rfl (U_pick_f rfl rfl) rfl rfl ?_ | refine Rv rfl rfl rfl (U_pick_b rfl rfl rfl) rfl rfl ?_
                  first | refine Rv rfl rfl rfl (U_pick_t rfl rfl) rfl rfl ?_ | refine Rv rfl rfl rfl (U_pick_f rfl rfl) rfl rfl ?_ | refine Rv rfl rfl rfl (U_pick_b rfl rfl rfl) rfl rfl ?_
                  refine Rv rfl rfl rfl (U_assign rfl) rfl rfl ?_
                  refine Re rfl ?_
                  refine thenQ_n ?_
                  refine W_ret rfl ?_
                  exact ret1 rfl (by simp_all [isPairB] <;> intros <;> omega) rfl
              · first
                | (cases hg1_14; done)
                | rw [hg1_14]
                  refine Rs rfl rfl rfl rfl rfl ?_
                  refine Rs rfl rfl rfl rfl rfl ?_
                  refine Rs rfl rfl rfl rfl rfl ?_
                  refine Rs rfl rfl rfl rfl rfl ?_
                  refine Rs rfl rfl rfl rfl rfl ?_
                  refine Rs rfl rfl rfl rfl rfl ?_
                  refine Rs rfl rfl rfl rfl rfl ?_
                  refine Rs rfl rfl rfl rfl rfl ?_
                  first | refine Rv rfl rfl rfl (U_pick_t rfl rfl) rfl rfl ?_ | refine Rv rfl rfl rfl (U_pick_f rfl rfl) rfl rfl ?_ | refine Rv rfl rfl rfl (U_pick_b rfl rfl rfl) rfl rfl ?_
                  first | refine Rv rfl rfl rfl (U_pick_t rfl rfl) rfl rfl ?_ | refine Rv rfl rfl rfl (U_pick_f rfl rfl) rfl rfl ?_ | refine Rv rfl rfl rfl (U_pick_b rfl rfl rfl) rfl rfl ?_
                  refine Rv rfl rfl rfl (U_assign rfl) rfl rfl ?_
                  refine Re rfl ?_
                  refine thenQ_n ?_
                  refine W_ret rfl ?_
                  exact ret1 rfl (by simp_all [isPairB] <;> intros <;> omega) rfl
          · first
            | (cases hg1_9; done)
            | rw [hg1_9]
              refine Rs rfl rfl rfl rfl rfl ?_
              refine Rs rfl rfl rfl rfl rfl ?_
              refine Rs rfl rfl rfl rfl rfl ?_
              first | refine Rv rfl rfl rfl (U_pick_t rfl rfl) rfl rfl ?_ | refine Rv rfl rfl rfl (U_pick_f rfl rfl) rfl rfl ?_ | refine Rv rfl rfl rfl (U_pick_b rfl rfl rfl) rfl rfl ?_
              refine Rv rfl rfl rfl (U_move rfl) rfl rfl ?_
              refine Rsplit (t := 21) rfl (fun hg1_14 => ?_) (fun hg1_14 => ?_)
              · first
                | (cases hg1_14; done)
                | rw [hg1_14]
                  refine Rv rfl rfl rfl (U_move rfl) rfl rfl ?_
                  refine Rv rfl rfl rfl (U_move rfl) rfl rfl ?_
                  first | refine Rv rfl rfl rfl (U_nilCheckR rfl) rfl rfl ?_ | refine Rv rfl rfl rfl (U_nilCheck rfl) rfl rfl ?_ | refine Rv rfl rfl rfl (U_nilCheckF rfl) rfl rfl ?_
                  first | refine Rv rfl rfl rfl (U_fieldAddr rfl) rfl rfl ?_ | refine Rv rfl rfl rfl (U_fieldAddrR rfl) rfl rfl ?_
                  first | refine Rv rfl rfl rfl (U_fieldAddr rfl) rfl rfl ?_ | refine Rv rfl rfl rfl (U_fieldAddrR rfl) rfl rfl ?_
                  refine Rv rfl rfl rfl (U_load1 rfl rfl rfl) rfl rfl ?_
                  first | refine Rv rfl rfl rfl (U_lenOf rfl len_ros) rfl rfl ?_ | refine Rv rfl rfl rfl (U_lenOf rfl len_slice) rfl rfl ?_ | refine Rv rfl rfl rfl (U_lenOf rfl len_sliceo) rfl rfl ?_ | refine Rv rfl rfl rfl (U_lenOf rfl len_nils) rfl rfl ?_
                  refine Rv rfl rfl rfl (U_lss rfl rfl) rfl rfl ?_
                  first | refine Rv rfl rfl rfl (U_pick_t rfl rfl) rfl rfl ?_ | refine Rv rfl rfl rfl (U_pick_f rfl rfl) rfl rfl ?_ | refine Rv rfl rfl rfl (U_pick_b rfl rfl rfl) rfl rfl ?_
                  first | refine Rv rfl rfl rfl (U_pick_t rfl rfl) rfl rfl ?_ | refine Rv rfl rfl rfl (U_pick_f rfl rfl) rfl rfl ?_ | refine Rv rfl rfl rfl (U_pick_b rfl rfl rfl) rfl rfl ?_
                  refine Rv rfl rfl rfl (U_assign rfl) rfl rfl ?_
                  refine Re rfl ?_
                  refine thenQ_n ?_
                  refine W_ret rfl ?_
                  exact ret1 rfl (by simp_all [isPairB] <;> intros <;> omega) rfl
              · first
                | (cases hg1_14; done)
                | rw [hg1_14]
                  refine Rs rfl rfl rfl rfl rfl ?_
                  refine Rs rfl rfl rfl rfl rfl ?_
                  refine Rs rfl rfl rfl rfl rfl ?_
                  refine Rs rfl rfl rfl rfl rfl ?_
                  refine Rs rfl rfl rfl rfl rfl ?_
                  refine Rs rfl rfl rfl rfl rfl ?_
                  refine Rs rfl rfl rfl rfl rfl ?_
                  refine Rs rfl rfl rfl rfl rfl ?_
                  first | refine Rv rfl rfl rfl (U_pick_t rfl rfl) rfl rfl ?_ | refine Rv rfl rfl rfl (U_pick_f rfl rfl) rfl rfl ?_ | refine Rv rfl rfl rfl (U_pick_b rfl rfl rfl) rfl rfl ?_
                  first | refine Rv rfl rfl rfl (U_pick_t rfl rfl) rfl rfl ?_ | refine Rv rfl rfl rfl (U_pick_f rfl rfl) rfl rfl ?_ | refine Rv rfl rfl rfl (U_pick_b rfl rfl rfl) rfl rfl ?_
                  refine Rv rfl rfl rfl (U_assign rfl) rfl rfl ?_
                  refine Re rfl ?_
                  refine thenQ_n ?_
                  refine W_ret rfl ?_
                  exact ret1 rfl (by simp_all [isPairB] <;> intros <;> omega) rfl
structure Good (s : Star) : Prop where
  lo : -1000 ≤ s.lo ∧ s.lo ≤ 1000
  hi : -1000 ≤ s.hi ∧ s.hi ≤ 1000
  es : ∀ (i : Nat) (h : i < s.es.length), 0 ≤ s.es[i].y ∧ s.es[i].y ≤ 200 ∧ -10000 ≤ s.es[i].lo ∧ s.es[i].lo ≤ 10000 ∧ -10000 ≤ s.es[i].hi ∧ s.es[i].hi ≤ 10000
  inc : ∀ (i k : Nat) (hi : i < k) (hk : k < s.es.length), s.es[i].y < s.es[k].y
  len : s.es.length ≤ 20
def ent (s : Star) (i : Nat) : Ent := s.es.getD i ⟨0, 0, 0⟩
theorem ent_eq {s : Star} {i : Nat} (h : i < s.es.length) : ent s i = s.es[i] := by simp [ent, h]
/-- The bound of the rate by a pair. -/
def bnd (s : Star) (high : Bool) (p : Int × Int) : Int × Int :=
  if p.1 < 0 then frac (if high = true then s.hi else s.lo) 1
  else frac (if high = true then (ent s p.2.toNat).hi - (ent s p.1.toNat).lo else (ent s p.2.toNat).lo - (ent s p.1.toNat).hi) ((ent s p.2.toNat).y - (ent s p.1.toNat).y)
theorem bndN_p (s : Star) (c : Option Nat) (hg : Good s) (high : Bool) (p : Int × Int) (hp : p.1 < 0) : Pure Try.prog 75 [cardA s c, .bool high, pairA p] (ratA (bnd s high p)) := by
  refine pure_of_body Try.func75 (c := body Try.f75) rfl (by simp [Try.ntmps75]) fun w0 Φ0 => ?_
  refine W_seq rfl ?_
  refine W_reg rfl ?_
  refine Ra rfl rfl rfl (U_box rfl rfl) rfl rfl rfl ?_
  refine Ra rfl rfl rfl (U_alloc) rfl rfl rfl ?_
  refine Re rfl ?_
  refine thenQ_n ?_
  refine W_seq rfl ?_
  refine W_seq rfl ?_
  refine W_reg rfl ?_
  first | refine Rv rfl rfl rfl (U_fieldAddr rfl) rfl rfl ?_ | refine Rv rfl rfl rfl (U_fieldAddrR rfl) rfl rfl ?_
  refine Rv rfl rfl rfl (U_load1 rfl rfl rfl) rfl rfl ?_
  refine Rv rfl rfl rfl (U_lss rfl rfl) rfl rfl ?_
  refine Re rfl ?_
  refine thenQ_n ?_
  refine WcondP rfl rfl (fun _ => ?_) (fun h => absurd (hp) h)
  refine W_seq rfl ?_
  refine Wdraw rfl (by kernel_rfl) (by kernel_rfl) ?_
  refine Dv rfl rfl rfl (U_move rfl) rfl rfl ?_
  first | refine Dv rfl rfl rfl (U_nilCheckR rfl) rfl rfl ?_ | refine Dv rfl rfl rfl (U_nilCheck rfl) rfl rfl ?_ | refine Dv rfl rfl rfl (U_nilCheckF rfl) rfl rfl ?_
  first | refine Dv rfl rfl rfl (U_fieldAddr rfl) rfl rfl ?_ | refine Dv rfl rfl rfl (U_fieldAddrR rfl) rfl rfl ?_
  first | refine Dv rfl rfl rfl (U_fieldAddr rfl) rfl rfl ?_ | refine Dv rfl rfl rfl (U_fieldAddrR rfl) rfl rfl ?_
  first | refine Dv rfl rfl rfl (U_fieldAddr rfl) rfl rfl ?_ | refine Dv rfl rfl rfl (U_fieldAddrR rfl) rfl rfl ?_
  refine Dv rfl rfl rfl (U_load1 rfl rfl rfl) rfl rfl ?_
  refine Dv rfl rfl rfl (U_move rfl) rfl rfl ?_
  first | refine Dv rfl rfl rfl (U_nilCheckR rfl) rfl rfl ?_ | refine Dv rfl rfl rfl (U_nilCheck rfl) rfl rfl ?_ | refine Dv rfl rfl rfl (U_nilCheckF rfl) rfl rfl ?_
  first | refine Dv rfl rfl rfl (U_fieldAddr rfl) rfl rfl ?_ | refine Dv rfl rfl rfl (U_fieldAddrR rfl) rfl rfl ?_
  first | refine Dv rfl rfl rfl (U_fieldAddr rfl) rfl rfl ?_ | refine Dv rfl rfl rfl (U_fieldAddrR rfl) rfl rfl ?_
  first | refine Dv rfl rfl rfl (U_fieldAddr rfl) rfl rfl ?_ | refine Dv rfl rfl rfl (U_fieldAddrR rfl) rfl rfl ?_
  refine Dv rfl rfl rfl (U_load1 rfl rfl rfl) rfl rfl ?_
  refine Dv rfl rfl rfl (U_move rfl) rfl rfl ?_
  refine Dv rfl rfl rfl (U_call rfl rfl (first_p s.hi s.lo high) rfl) rfl rfl ?_
  refine Dv rfl rfl rfl (U_call rfl rfl (frac_p (if high = true then s.hi else s.lo) 1 (by have := hg.lo; have := hg.hi; split <;> omega) (by omega)) rfl) rfl rfl ?_
  first | refine Dn_ rfl rfl rfl (U_storeAll rfl rfl rfl rfl rfl rfl) rfl rfl ?_ | refine Dn_ rfl rfl rfl (U_store rfl rfl rfl rfl rfl (by decide) rfl rfl) rfl rfl ?_
  refine Dr.nil rfl ?_
  refine thenQ_n ?_
  refine W_ret rfl ?_
  refine thenQ_r ?_
  exact retC rfl rfl rfl (by rw [bnd, if_pos hp]) rfl
theorem bndP_p (s : Star) (c : Option Nat) (hg : Good s) (high : Bool) (i k : Nat) (hik : i < k) (hk : k < s.es.length) : Pure Try.prog 75 [cardA s c, .bool high, pairA (i, k)] (ratA (bnd s high (i, k))) := by
  have hi : i < s.es.length := by omega
  have e1 := hg.es i hi
  have e2 := hg.es k hk
  have e3 := hg.inc i k hik hk
  refine pure_of_body Try.func75 (c := body Try.f75) rfl (by simp [Try.ntmps75]) fun w0 Φ0 => ?_
  refine W_seq rfl ?_
  refine W_reg rfl ?_
  refine Ra rfl rfl rfl (U_box rfl rfl) rfl rfl rfl ?_
  refine Ra rfl rfl rfl (U_alloc) rfl rfl rfl ?_
  refine Re rfl ?_
  refine thenQ_n ?_
  refine Wfr 0 rfl rfl (T' := [(0, cardA s c), (1, .bool high), (6, .ptr 1 0), (5, .rop [i64 (i : Nat), i64 (k : Nat)] 0)]) (H' := [(1, some (.cells [i64 0, i64 0] 28))]) ⟨rfl, rfl, rfl, rfl, trivial⟩ ⟨rfl, trivial⟩ ?_
  refine W_seq rfl ?_
  refine W_seq rfl ?_
  refine W_reg rfl ?_
  first | refine Rv rfl rfl rfl (U_fieldAddr rfl) rfl rfl ?_ | refine Rv rfl rfl rfl (U_fieldAddrR rfl) rfl rfl ?_
  refine Rv rfl rfl rfl (U_load1 rfl rfl rfl) rfl rfl ?_
  refine Rv rfl rfl rfl (U_lss rfl rfl) rfl rfl ?_
  refine Re rfl ?_
  refine thenQ_n ?_
  refine WcondP rfl rfl (fun h => absurd h (show ¬ ((i : Nat) : Int) < 0 by omega)) (fun _ => ?_)
  refine W_skip rfl ?_
  refine thenQ_n ?_
  refine W_seq rfl ?_
  refine WdrawL [32, 34, 36, 41, 43, 45] rfl (by kernel_rfl) (by kernel_rfl) ?_
  refine Dv rfl rfl rfl (U_move rfl) rfl rfl ?_
  first | refine Dv rfl rfl rfl (U_nilCheckR rfl) rfl rfl ?_ | refine Dv rfl rfl rfl (U_nilCheck rfl) rfl rfl ?_ | refine Dv rfl rfl rfl (U_nilCheckF rfl) rfl rfl ?_
  first | refine Dv rfl rfl rfl (U_fieldAddr rfl) rfl rfl ?_ | refine Dv rfl rfl rfl (U_fieldAddrR rfl) rfl rfl ?_
  first | refine Dv rfl rfl rfl (U_fieldAddr rfl) rfl rfl ?_ | refine Dv rfl rfl rfl (U_fieldAddrR rfl) rfl rfl ?_
  refine Dv rfl rfl rfl (U_load1 rfl rfl rfl) rfl rfl ?_
  first | refine Dv rfl rfl rfl (U_fieldAddr rfl) rfl rfl ?_ | refine Dv rfl rfl rfl (U_fieldAddrR rfl) rfl rfl ?_
  refine Dv rfl rfl rfl (U_load1 rfl rfl rfl) rfl rfl ?_
  refine Dv rfl rfl rfl (U_indexR rfl rfl rfl hi) rfl rfl ?_
  refine Dv rfl rfl rfl (U_load3 rfl rfl (ent0 hi) (ent1 hi) (ent2 hi)) rfl rfl ?_
  refine Dv rfl rfl rfl (U_move rfl) rfl rfl ?_
  first | refine Dv rfl rfl rfl (U_nilCheckR rfl) rfl rfl ?_ | refine Dv rfl rfl rfl (U_nilCheck rfl) rfl rfl ?_ | refine Dv rfl rfl rfl (U_nilCheckF rfl) rfl rfl ?_
  first | refine Dv rfl rfl rfl (U_fieldAddr rfl) rfl rfl ?_ | refine Dv rfl rfl rfl (U_fieldAddrR rfl) rfl rfl ?_
  first | refine Dv rfl rfl rfl (U_fieldAddr rfl) rfl rfl ?_ | refine Dv rfl rfl rfl (U_fieldAddrR rfl) rfl rfl ?_
  refine Dv rfl rfl rfl (U_load1 rfl rfl rfl) rfl rfl ?_
  first | refine Dv rfl rfl rfl (U_fieldAddr rfl) rfl rfl ?_ | refine Dv rfl rfl rfl (U_fieldAddrR rfl) rfl rfl ?_
  refine Dv rfl rfl rfl (U_load1 rfl rfl rfl) rfl rfl ?_
  refine Dv rfl rfl rfl (U_indexR rfl rfl rfl hk) rfl rfl ?_
  refine Dv rfl rfl rfl (U_load3 rfl rfl (ent0 hk) (ent1 hk) (ent2 hk)) rfl rfl ?_
  refine Da rfl rfl rfl (U_alloc) rfl rfl rfl rfl ?_
  refine Da rfl rfl rfl (U_alloc) rfl rfl rfl rfl ?_
  first | refine Dn_ rfl rfl rfl (U_storeAll rfl rfl rfl rfl rfl rfl) rfl rfl ?_ | refine Dn_ rfl rfl rfl (U_store rfl rfl rfl rfl rfl (by decide) rfl rfl) rfl rfl ?_
  first | refine Dn_ rfl rfl rfl (U_storeAll rfl rfl rfl rfl rfl rfl) rfl rfl ?_ | refine Dn_ rfl rfl rfl (U_store rfl rfl rfl rfl rfl (by decide) rfl rfl) rfl rfl ?_
  refine Dr.nil rfl ?_
  refine thenQ_n ?_
  refine W_seq rfl ?_
  refine W_reg rfl ?_
  first | refine Rv rfl rfl rfl (U_fieldAddr rfl) rfl rfl ?_ | refine Rv rfl rfl rfl (U_fieldAddrR rfl) rfl rfl ?_
  first | refine Rv rfl rfl rfl (U_fieldAddr rfl) rfl rfl ?_ | refine Rv rfl rfl rfl (U_fieldAddrR rfl) rfl rfl ?_
  refine Rv rfl rfl rfl (U_load1 rfl rfl rfl) rfl rfl ?_
  first | refine Rv rfl rfl rfl (U_fieldAddr rfl) rfl rfl ?_ | refine Rv rfl rfl rfl (U_fieldAddrR rfl) rfl rfl ?_
  first | refine Rv rfl rfl rfl (U_fieldAddr rfl) rfl rfl ?_ | refine Rv rfl rfl rfl (U_fieldAddrR rfl) rfl rfl ?_
  refine Rv rfl rfl rfl (U_load1 rfl rfl rfl) rfl rfl ?_
  refine Rv rfl rfl rfl (U_sub rfl rfl (w64 (by omega) (by omega))) rfl rfl ?_
  first | refine Rv rfl rfl rfl (U_fieldAddr rfl) rfl rfl ?_ | refine Rv rfl rfl rfl (U_fieldAddrR rfl) rfl rfl ?_
  first | refine Rv rfl rfl rfl (U_fieldAddr rfl) rfl rfl ?_ | refine Rv rfl rfl rfl (U_fieldAddrR rfl) rfl rfl ?_
  refine Rv rfl rfl rfl (U_load1 rfl rfl rfl) rfl rfl ?_
  first | refine Rv rfl rfl rfl (U_fieldAddr rfl) rfl rfl ?_ | refine Rv rfl rfl rfl (U_fieldAddrR rfl) rfl rfl ?_
  first | refine Rv rfl rfl rfl (U_fieldAddr rfl) rfl rfl ?_ | refine Rv rfl rfl rfl (U_fieldAddrR rfl) rfl rfl ?_
  refine Rv rfl rfl rfl (U_load1 rfl rfl rfl) rfl rfl ?_
  refine Rv rfl rfl rfl (U_sub rfl rfl (w64 (by omega) (by omega))) rfl rfl ?_
  refine Rv rfl rfl rfl (U_move rfl) rfl rfl ?_
  refine Rv rfl rfl rfl (U_call rfl rfl (first_p (s.es[k].hi - s.es[i].lo) (s.es[k].lo - s.es[i].hi) high) rfl) rfl rfl ?_
  refine Rv rfl rfl rfl (U_assign rfl) rfl rfl ?_
  refine Re rfl ?_
  refine thenQ_n ?_
  refine W_seq rfl ?_
  refine W_reg rfl ?_
  refine Rv rfl rfl rfl (U_move rfl) rfl rfl ?_
  first | refine Rv rfl rfl rfl (U_fieldAddr rfl) rfl rfl ?_ | refine Rv rfl rfl rfl (U_fieldAddrR rfl) rfl rfl ?_
  refine Rv rfl rfl rfl (U_load1 rfl rfl rfl) rfl rfl ?_
  first | refine Rv rfl rfl rfl (U_fieldAddr rfl) rfl rfl ?_ | refine Rv rfl rfl rfl (U_fieldAddrR rfl) rfl rfl ?_
  refine Rv rfl rfl rfl (U_load1 rfl rfl rfl) rfl rfl ?_
  refine Rv rfl rfl rfl (U_sub rfl rfl (w64 (by omega) (by omega))) rfl rfl ?_
  refine Rv rfl rfl rfl (U_call rfl rfl (frac_p (if high = true then s.es[k].hi - s.es[i].lo else s.es[k].lo - s.es[i].hi) (s.es[k].y - s.es[i].y) (by split <;> omega) (by omega)) rfl) rfl rfl ?_
  first | refine Rn rfl rfl rfl (U_storeAll rfl rfl rfl rfl rfl rfl) rfl ?_ | refine Rn rfl rfl rfl (U_store rfl rfl rfl rfl rfl (by decide) rfl rfl) rfl ?_
  refine Re rfl ?_
  refine thenQ_n ?_
  refine W_ret rfl ?_
  exact retC rfl rfl rfl (by rw [bnd, if_neg (show ¬ ((i : Nat) : Int) < 0 by omega)]; simp only [Int.toNat_natCast, ent_eq hi, ent_eq hk]) rfl
theorem bnd_p (s : Star) (c : Option Nat) (hg : Good s) (high : Bool) (p : Int × Int) (hp : isPairB s.es.length p = true) : Pure Try.prog 75 [cardA s c, .bool high, pairA p] (ratA (bnd s high p)) := by
  by_cases h : p.1 < 0
  · exact bndN_p s c hg high p h
  · obtain ⟨a, b⟩ := p
    simp [isPairB] at hp h
    obtain ⟨i, rfl⟩ : ∃ i : Nat, a = i := ⟨a.toNat, by omega⟩
    obtain ⟨k, rfl⟩ : ∃ k : Nat, b = k := ⟨b.toNat, by omega⟩
    exact bndP_p s c hg high i k (by omega) (by omega)
theorem minus_p (q : Int × Int) (h : -9000000000000000000 ≤ q.1 ∧ q.1 ≤ 9000000000000000000) : Pure Try.prog 85 [ratA q] (ratA (-q.1, q.2)) := by
  refine pure_of_body Try.func85 (c := body Try.f85) rfl (by simp [Try.ntmps85]) fun w0 Φ0 => ?_
  refine W_seq rfl ?_
  refine W_reg rfl ?_
  refine Ra rfl rfl rfl (U_box rfl rfl) rfl rfl rfl ?_
  refine Ra rfl rfl rfl (U_alloc) rfl rfl rfl ?_
  refine Re rfl ?_
  refine thenQ_n ?_
  refine W_seq rfl ?_
  refine W_reg rfl ?_
  first | refine Rv rfl rfl rfl (U_fieldAddr rfl) rfl rfl ?_ | refine Rv rfl rfl rfl (U_fieldAddrR rfl) rfl rfl ?_
  refine Rv rfl rfl rfl (U_load1 rfl rfl rfl) rfl rfl ?_
  refine Rv rfl rfl rfl (U_neg rfl (w64 (by omega) (by omega))) rfl rfl ?_
  first | refine Rv rfl rfl rfl (U_fieldAddr rfl) rfl rfl ?_ | refine Rv rfl rfl rfl (U_fieldAddrR rfl) rfl rfl ?_
  refine Rv rfl rfl rfl (U_load1 rfl rfl rfl) rfl rfl ?_
  refine Rv rfl rfl rfl (U_build rfl rfl) rfl rfl ?_
  first | refine Rn rfl rfl rfl (U_storeAll rfl rfl rfl rfl rfl rfl) rfl ?_ | refine Rn rfl rfl rfl (U_store rfl rfl rfl rfl rfl (by decide) rfl rfl) rfl ?_
  refine Re rfl ?_
  refine thenQ_n ?_
  refine W_ret rfl ?_
  exact retC rfl rfl rfl rfl rfl
theorem greater_p (a b : Int × Int) (h1 : -9000000000000000000 ≤ b.1 * a.2 ∧ b.1 * a.2 ≤ 9000000000000000000) (h2 : -9000000000000000000 ≤ a.1 * b.2 ∧ a.1 * b.2 ≤ 9000000000000000000) : Pure Try.prog 103 [ratA a, ratA b] (.bool (lessQ b a)) := by
  refine pure_of_body Try.func103 (c := body Try.f103) rfl (by simp [Try.ntmps103]) fun w0 Φ0 => ?_
  refine W_seq rfl ?_
  refine W_reg rfl ?_
  refine Ra rfl rfl rfl (U_box rfl rfl) rfl rfl rfl ?_
  refine Ra rfl rfl rfl (U_box rfl rfl) rfl rfl rfl ?_
  refine Rv rfl rfl rfl (U_assign rfl) rfl rfl ?_
  refine Re rfl ?_
  refine thenQ_n ?_
  refine W_seq rfl ?_
  refine W_reg rfl ?_
  refine Rv rfl rfl rfl (U_load2 rfl rfl rfl rfl) rfl rfl ?_
  refine Rv rfl rfl rfl (U_load2 rfl rfl rfl rfl) rfl rfl ?_
  refine Rv rfl rfl rfl (U_call rfl rfl (less_p b a h1 h2) rfl) rfl rfl ?_
  refine Rv rfl rfl rfl (U_assign rfl) rfl rfl ?_
  refine Re rfl ?_
  refine thenQ_n ?_
  refine W_ret rfl ?_
  exact ret1 rfl rfl rfl
theorem firstQ_p (a b : Int × Int) (is : Bool) : Pure Try.prog 107 [ratA a, ratA b, .bool is] (ratA (if is = true then a else b)) := by
  refine pure_of_body Try.func107 (c := body Try.f107) rfl (by simp [Try.ntmps107]) fun w0 Φ0 => ?_
  refine W_seq rfl ?_
  refine W_reg rfl ?_
  refine Ra rfl rfl rfl (U_box rfl rfl) rfl rfl rfl ?_
  refine Ra rfl rfl rfl (U_box rfl rfl) rfl rfl rfl ?_
  refine Ra rfl rfl rfl (U_alloc) rfl rfl rfl ?_
  refine Re rfl ?_
  refine thenQ_n ?_
  refine W_seq rfl ?_
  refine W_seq rfl ?_
  refine W_reg rfl ?_
  refine Rv rfl rfl rfl (U_move rfl) rfl rfl ?_
  refine Re rfl ?_
  refine thenQ_n ?_
  refine Wcond rfl rfl (fun hb => ?_) (fun hb => ?_)
  · refine W_seq rfl ?_
    refine W_reg rfl ?_
    refine Rv rfl rfl rfl (U_load2 rfl rfl rfl rfl) rfl rfl ?_
    first | refine Rn rfl rfl rfl (U_storeAll rfl rfl rfl rfl rfl rfl) rfl ?_ | refine Rn rfl rfl rfl (U_store rfl rfl rfl rfl rfl (by decide) rfl rfl) rfl ?_
    refine Re rfl ?_
    refine thenQ_n ?_
    refine W_ret rfl ?_
    refine thenQ_r ?_
    exact retC rfl rfl rfl (by rw [hb]; rfl) rfl
  · refine W_skip rfl ?_
    refine thenQ_n ?_
    refine W_seq rfl ?_
    refine W_reg rfl ?_
    refine Rv rfl rfl rfl (U_load2 rfl rfl rfl rfl) rfl rfl ?_
    first | refine Rn rfl rfl rfl (U_storeAll rfl rfl rfl rfl rfl rfl) rfl ?_ | refine Rn rfl rfl rfl (U_store rfl rfl rfl rfl rfl (by decide) rfl rfl) rfl ?_
    refine Re rfl ?_
    refine thenQ_n ?_
    refine W_ret rfl ?_
    exact retC rfl rfl rfl (by rw [hb]; rfl) rfl
/-- A fraction of small numbers. -/
def Bd (N D : Int) (q : Int × Int) : Prop := -N ≤ q.1 ∧ q.1 ≤ N ∧ 1 ≤ q.2 ∧ q.2 ≤ D
theorem mulB {a b A B : Int} (h1 : -A ≤ a) (h2 : a ≤ A) (h3 : -B ≤ b) (h4 : b ≤ B) : -(A * B) ≤ a * b ∧ a * b ≤ A * B := by
  have hA : 0 ≤ A := by omega
  have hB : 0 ≤ B := by omega
  have h : (a * b).natAbs ≤ (A * B).natAbs := by
    rw [Int.natAbs_mul, Int.natAbs_mul]; exact Nat.mul_le_mul (by omega) (by omega)
  have : 0 ≤ A * B := Int.mul_nonneg hA hB
  omega
def carriedQ (p v : Int × Int) (y : Int) : Int × Int := frac (p.1 * v.2 + v.1 * y * p.2) (p.2 * v.2)
theorem carried_p (p v : Int × Int) (y : Int) (hp : Bd 1000000000 40000 p) (hv : Bd 1000000000 40000 v) (hy : -1000 ≤ y ∧ y ≤ 1000) : Pure Try.prog 106 [ratA p, ratA v, i64 y] (ratA (carriedQ p v y)) := by
  obtain ⟨p1, p2, p3, p4⟩ := hp
  obtain ⟨v1, v2, v3, v4⟩ := hv
  have m1 := mulB p1 p2 (show -40000 ≤ v.2 by omega) v4
  have m2 := mulB v1 v2 hy.1 hy.2
  have m3 := mulB m2.1 m2.2 (show -40000 ≤ p.2 by omega) p4
  have m4 := mulB (show -40000 ≤ p.2 by omega) p4 (show -40000 ≤ v.2 by omega) v4
  have m5 : 1 ≤ p.2 * v.2 := Int.mul_pos (show 0 < p.2 by omega) (show 0 < v.2 by omega)
  refine pure_of_body Try.func106 (c := body Try.f106) rfl (by simp [Try.ntmps106]) fun w0 Φ0 => ?_
  refine W_seq rfl ?_
  refine W_reg rfl ?_
  refine Ra rfl rfl rfl (U_box rfl rfl) rfl rfl rfl ?_
  refine Ra rfl rfl rfl (U_box rfl rfl) rfl rfl rfl ?_
  refine Ra rfl rfl rfl (U_alloc) rfl rfl rfl ?_
  refine Re rfl ?_
  refine thenQ_n ?_
  refine W_seq rfl ?_
  refine W_reg rfl ?_
  first | refine Rv rfl rfl rfl (U_fieldAddr rfl) rfl rfl ?_ | refine Rv rfl rfl rfl (U_fieldAddrR rfl) rfl rfl ?_
  refine Rv rfl rfl rfl (U_load1 rfl rfl rfl) rfl rfl ?_
  first | refine Rv rfl rfl rfl (U_fieldAddr rfl) rfl rfl ?_ | refine Rv rfl rfl rfl (U_fieldAddrR rfl) rfl rfl ?_
  refine Rv rfl rfl rfl (U_load1 rfl rfl rfl) rfl rfl ?_
  refine Rv rfl rfl rfl (U_mul rfl rfl (w64 (by omega) (by omega))) rfl rfl ?_
  first | refine Rv rfl rfl rfl (U_fieldAddr rfl) rfl rfl ?_ | refine Rv rfl rfl rfl (U_fieldAddrR rfl) rfl rfl ?_
  refine Rv rfl rfl rfl (U_load1 rfl rfl rfl) rfl rfl ?_
  refine Rv rfl rfl rfl (U_move rfl) rfl rfl ?_
  refine Rv rfl rfl rfl (U_mul rfl rfl (w64 (by omega) (by omega))) rfl rfl ?_
  first | refine Rv rfl rfl rfl (U_fieldAddr rfl) rfl rfl ?_ | refine Rv rfl rfl rfl (U_fieldAddrR rfl) rfl rfl ?_
  refine Rv rfl rfl rfl (U_load1 rfl rfl rfl) rfl rfl ?_
  refine Rv rfl rfl rfl (U_mul rfl rfl (w64 (by omega) (by omega))) rfl rfl ?_
  refine Rv rfl rfl rfl (U_add rfl rfl (w64 (by omega) (by omega))) rfl rfl ?_
  first | refine Rv rfl rfl rfl (U_fieldAddr rfl) rfl rfl ?_ | refine Rv rfl rfl rfl (U_fieldAddrR rfl) rfl rfl ?_
  refine Rv rfl rfl rfl (U_load1 rfl rfl rfl) rfl rfl ?_
  first | refine Rv rfl rfl rfl (U_fieldAddr rfl) rfl rfl ?_ | refine Rv rfl rfl rfl (U_fieldAddrR rfl) rfl rfl ?_
  refine Rv rfl rfl rfl (U_load1 rfl rfl rfl) rfl rfl ?_
  refine Rv rfl rfl rfl (U_mul rfl rfl (w64 (by omega) (by omega))) rfl rfl ?_
  refine Rv rfl rfl rfl (U_call rfl rfl (frac_p (p.1 * v.2 + v.1 * y * p.2) (p.2 * v.2) (by omega) (by omega)) rfl) rfl rfl ?_
  first | refine Rn rfl rfl rfl (U_storeAll rfl rfl rfl rfl rfl rfl) rfl ?_ | refine Rn rfl rfl rfl (U_store rfl rfl rfl rfl rfl (by decide) rfl rfl) rfl ?_
  refine Re rfl ?_
  refine thenQ_n ?_
  refine W_ret rfl ?_
  exact retC rfl rfl rfl rfl rfl
def steepQ (p : Int × Int) (to y : Int) : Int × Int := if p.2 * y < 0 then frac (-(to * p.2 - p.1)) (-(p.2 * y)) else frac (to * p.2 - p.1) (p.2 * y)
theorem steep_p (p : Int × Int) (to y : Int) (hp : Bd 1000000000 40000 p) (ht : -1000000 ≤ to ∧ to ≤ 1000000) (hy : -1000 ≤ y ∧ y ≤ 1000) (h0 : y ≠ 0) : Pure Try.prog 109 [ratA p, i64 to, i64 y] (ratA (steepQ p to y)) := by
  obtain ⟨p1, p2, p3, p4⟩ := hp
  have m1 := mulB ht.1 ht.2 (show -40000 ≤ p.2 by omega) p4
  have m4 := mulB (show -40000 ≤ p.2 by omega) p4 hy.1 hy.2
  have m5 : p.2 * y ≠ 0 := Int.mul_ne_zero (by omega) h0
  refine pure_of_body Try.func109 (c := body Try.f109) rfl (by simp [Try.ntmps109]) fun w0 Φ0 => ?_
  refine W_seq rfl ?_
  refine W_reg rfl ?_
  refine Ra rfl rfl rfl (U_box rfl rfl) rfl rfl rfl ?_
  refine Ra rfl rfl rfl (U_alloc) rfl rfl rfl ?_
  refine Re rfl ?_
  refine thenQ_n ?_
  refine W_seq rfl ?_
  refine Wdraw rfl (by kernel_rfl) (by kernel_rfl) ?_
  refine Dv rfl rfl rfl (U_move rfl) rfl rfl ?_
  first | refine Dv rfl rfl rfl (U_fieldAddr rfl) rfl rfl ?_ | refine Dv rfl rfl rfl (U_fieldAddrR rfl) rfl rfl ?_
  refine Dv rfl rfl rfl (U_load1 rfl rfl rfl) rfl rfl ?_
  refine Dv rfl rfl rfl (U_mul rfl rfl (w64 (by omega) (by omega))) rfl rfl ?_
  first | refine Dv rfl rfl rfl (U_fieldAddr rfl) rfl rfl ?_ | refine Dv rfl rfl rfl (U_fieldAddrR rfl) rfl rfl ?_
  refine Dv rfl rfl rfl (U_load1 rfl rfl rfl) rfl rfl ?_
  refine Dv rfl rfl rfl (U_sub rfl rfl (w64 (by omega) (by omega))) rfl rfl ?_
  first | refine Dv rfl rfl rfl (U_fieldAddr rfl) rfl rfl ?_ | refine Dv rfl rfl rfl (U_fieldAddrR rfl) rfl rfl ?_
  refine Dv rfl rfl rfl (U_load1 rfl rfl rfl) rfl rfl ?_
  refine Dv rfl rfl rfl (U_move rfl) rfl rfl ?_
  refine Dv rfl rfl rfl (U_mul rfl rfl (w64 (by omega) (by omega))) rfl rfl ?_
  refine Dv rfl rfl rfl (U_assign rfl) rfl rfl ?_
  refine Dv rfl rfl rfl (U_assign rfl) rfl rfl ?_
  refine Dr.nil rfl ?_
  refine thenQ_n ?_
  refine W_seq rfl ?_
  refine W_seq rfl ?_
  refine W_reg rfl ?_
  refine Rv rfl rfl rfl (U_move rfl) rfl rfl ?_
  refine Rv rfl rfl rfl (U_lss rfl rfl) rfl rfl ?_
  refine Re rfl ?_
  refine thenQ_n ?_
  refine WcondP rfl rfl (fun hc => ?_) (fun hc => ?_)
  · refine W_reg rfl ?_
    refine Rv rfl rfl rfl (U_move rfl) rfl rfl ?_
    refine Rv rfl rfl rfl (U_neg rfl (w64 (by omega) (by omega))) rfl rfl ?_
    refine Rv rfl rfl rfl (U_move rfl) rfl rfl ?_
    refine Rv rfl rfl rfl (U_neg rfl (w64 (by omega) (by omega))) rfl rfl ?_
    refine Rv rfl rfl rfl (U_assign rfl) rfl rfl ?_
    refine Rv rfl rfl rfl (U_assign rfl) rfl rfl ?_
    refine Re rfl ?_
    refine thenQ_n ?_
    refine W_seq rfl ?_
    refine W_reg rfl ?_
    refine Rv rfl rfl rfl (U_move rfl) rfl rfl ?_
    refine Rv rfl rfl rfl (U_move rfl) rfl rfl ?_
    first | refine Rv rfl rfl rfl (U_call rfl rfl (frac_p (-(to * p.2 - p.1)) (-(p.2 * y)) (by omega) (by omega)) rfl) rfl rfl ?_ | refine Rv rfl rfl rfl (U_call rfl rfl (frac_p (to * p.2 - p.1) (p.2 * y) (by omega) (by omega)) rfl) rfl rfl ?_
    first | refine Rn rfl rfl rfl (U_storeAll rfl rfl rfl rfl rfl rfl) rfl ?_ | refine Rn rfl rfl rfl (U_store rfl rfl rfl rfl rfl (by decide) rfl rfl) rfl ?_
    refine Re rfl ?_
    refine thenQ_n ?_
    refine W_ret rfl ?_
    first | exact retC rfl rfl rfl (by rw [steepQ, if_pos hc]) rfl | exact retC rfl rfl rfl (by rw [steepQ, if_neg hc]) rfl
  · refine W_skip rfl ?_
    refine thenQ_n ?_
    refine W_seq rfl ?_
    refine W_reg rfl ?_
    refine Rv rfl rfl rfl (U_move rfl) rfl rfl ?_
    refine Rv rfl rfl rfl (U_move rfl) rfl rfl ?_
    first | refine Rv rfl rfl rfl (U_call rfl rfl (frac_p (-(to * p.2 - p.1)) (-(p.2 * y)) (by omega) (by omega)) rfl) rfl rfl ?_ | refine Rv rfl rfl rfl (U_call rfl rfl (frac_p (to * p.2 - p.1) (p.2 * y) (by omega) (by omega)) rfl) rfl rfl ?_
    first | refine Rn rfl rfl rfl (U_storeAll rfl rfl rfl rfl rfl rfl) rfl ?_ | refine Rn rfl rfl rfl (U_store rfl rfl rfl rfl rfl (by decide) rfl rfl) rfl ?_
    refine Re rfl ?_
    refine thenQ_n ?_
    refine W_ret rfl ?_
    first | exact retC rfl rfl rfl (by rw [steepQ, if_pos hc]) rfl | exact retC rfl rfl rfl (by rw [steepQ, if_neg hc]) rfl
end Go.Proofs.Ytapappdgdiaijaa
end

section
/- Contracts of package drift: the best bound. -/
namespace Go.Proofs.Ytapappdgdiaijaa
open Go.AE
theorem frac_bd {N D n d : Int} (h1 : -N ≤ n) (h2 : n ≤ N) (h3 : 1 ≤ d) (h4 : d ≤ D) : Bd N D (frac n d) := by
  have hp : 0 < Int.gcd n d := Int.gcd_pos_of_ne_zero_right _ (by omega)
  have a1 : (n.tdiv (Int.gcd n d)).natAbs ≤ n.natAbs := by rw [Int.natAbs_tdiv]; exact Nat.div_le_self _ _
  have a2 : (d.tdiv (Int.gcd n d)).natAbs ≤ d.natAbs := by rw [Int.natAbs_tdiv]; exact Nat.div_le_self _ _
  have a3 : ((Int.gcd n d : Nat) : Int) ∣ d := Int.gcd_dvd_right ..
  have a4 : d.tdiv (Int.gcd n d) * (Int.gcd n d) = d := Int.tdiv_mul_cancel a3
  have a5 : 0 < d.tdiv (Int.gcd n d) := by
    rcases Int.lt_trichotomy (d.tdiv (Int.gcd n d)) 0 with h | h | h
    · have := Int.mul_neg_of_neg_of_pos h (show (0 : Int) < (Int.gcd n d : Nat) by omega); omega
    · rw [h] at a4; omega
    · exact h
  exact ⟨by show -N ≤ n.tdiv _; omega, by show n.tdiv _ ≤ N; omega, by show 1 ≤ d.tdiv _; omega, by show d.tdiv _ ≤ D; omega⟩
theorem bnd_bd {s : Star} (hg : Good s) {p : Int × Int} (hp : isPairB s.es.length p = true) (high : Bool) : Bd 20000 200 (bnd s high p) := by
  unfold bnd
  split
  · have := hg.lo; have := hg.hi; exact frac_bd (by split <;> omega) (by split <;> omega) (by omega) (by omega)
  · rename_i h
    obtain ⟨a, b⟩ := p
    simp [isPairB] at hp h
    obtain ⟨i, rfl⟩ : ∃ i : Nat, a = i := ⟨a.toNat, by omega⟩
    obtain ⟨k, rfl⟩ : ∃ k : Nat, b = k := ⟨b.toNat, by omega⟩
    have hi : i < s.es.length := by omega
    have hk : k < s.es.length := by omega
    have e1 := hg.es i hi; have e2 := hg.es k hk; have e3 := hg.inc i k (by omega) hk
    simp only [Int.toNat_natCast, ent_eq hi, ent_eq hk]
    exact frac_bd (by split <;> omega) (by split <;> omega) (by omega) (by omega)
theorem bd_prod {a b : Int × Int} {N D : Int} (ha : Bd N D a) (hb : Bd N D b) (h : N * D ≤ 9000000000000000000) : -9000000000000000000 ≤ a.1 * b.2 ∧ a.1 * b.2 ≤ 9000000000000000000 := by
  obtain ⟨a1, a2, a3, a4⟩ := ha; obtain ⟨b1, b2, b3, b4⟩ := hb
  have := mulB a1 a2 (show -D ≤ b.2 by omega) b4; omega
def betterB (high : Bool) (a b : Int × Int) : Bool := if high = true then lessQ a b else lessQ b a
def stepB (s : Star) (high : Bool) (q : (Int × Int) × Nat) (p : Int × Int) : (Int × Int) × Nat := if betterB high (bnd s high p) (bnd s high q.1) = true then (p, q.2 + 1) else q
def pairsL (n : Nat) : List (Int × Int) := (-1, -1) :: (List.range n).flatMap fun i => (List.range' (i + 1) (n - (i + 1))).map fun k => (((i : Nat) : Int), ((k : Nat) : Int))
def bestQ (s : Star) (high : Bool) (l : List (Int × Int)) : (Int × Int) × Nat := l.foldl (stepB s high) ((-1, -1), 1)
/-- The pair of the best bound. -/
def bestP (s : Star) (high : Bool) : Int × Int := (bestQ s high (pairsL s.es.length)).1
noncomputable abbrev bestLoop : Code := (body Try.f79).r.r.r.r.r.l.r.l
abbrev betF (high : Bool) : FuncId := match high with | true => 82 | false => 103
theorem better_p (high : Bool) (a b : Int × Int) (ha : Bd 20000 200 a) (hb : Bd 20000 200 b) : Pure Try.prog (betF high) [ratA a, ratA b] (.bool (betterB high a b)) := by
  cases high
  · exact greater_p a b (bd_prod hb ha (by omega)) (bd_prod ha hb (by omega))
  · exact less_p a b (bd_prod ha hb (by omega)) (bd_prod hb ha (by omega))
instance (high : Bool) : FnOk Try.prog (betF high) := by cases high <;> infer_instance
abbrev trB (s : Star) (c : Option Nat) (high : Bool) : AT := [(21, .fn 114 [] [.rop [cardA s c] 0]), (2, .rop [cardA s c] 0), (3, .rop [.bool high] 0), (4, .ptr 3 0), (5, .rop [.fn (betF high) [] []] 0), (6, .ptr 0 0), (7, .ptr 2 0)]
noncomputable abbrev loopB (s : Star) (c : Option Nat) (high : Bool) (st : LoopState) : ABlk := .loop st none (trB s c high) Try.f79.ntmps bestLoop.ps bestLoop.l bestLoop.r 4
abbrev mapB (s : Star) (high : Bool) (q : (Int × Int) × Nat) : ABlk := .map [(pairA q.1, ratA (bnd s high q.1), q.2 - 1)] q.2
noncomputable abbrev nfB (s : Star) (c : Option Nat) (high : Bool) (q : (Int × Int) × Nat) : AH := [(5, some (loopB s c high .ready)), (0, some (.cells [i64 q.1.1, i64 q.1.2] 108)), (1, some (mapB s high q)), (2, some (.cells [.mapl 1] 134)), (3, some (.cells [i64 0, i64 0] 108)), (4, some (.defd false))]
theorem step_no {s : Star} {high : Bool} {q : (Int × Int) × Nat} {p : Int × Int} (h : betterB high (bnd s high p) (bnd s high q.1) = false) : stepB s high q p = q := by simp [stepB, h]
theorem step_yes {s : Star} {high : Bool} {q : (Int × Int) × Nat} {p : Int × Int} (h : betterB high (bnd s high p) (bnd s high q.1) = true) : stepB s high q p = (p, q.2 + 1) := by simp [stepB, h]
theorem better_ne {s : Star} {high : Bool} {q p : Int × Int} (h : betterB high (bnd s high p) (bnd s high q) = true) : pairA q ≠ pairA p := fun e => by
  have : q = p := by
    obtain ⟨a, b⟩ := q; obtain ⟨a', b'⟩ := p
    simpa using e
  subst this
  cases high <;> simp [betterB, lessQ] at h
theorem roundB (s : Star) (c : Option Nat) (hg : Good s) (high : Bool) (q : (Int × Int) × Nat) (hq : isPairB s.es.length q.1 = true) (p : Int × Int) (hp : isPairB s.es.length p = true) (w0 : World) (Wr : Nat → Prop) (Φ0 : Fz) (ro : Option Nat) (nt k0 : Nat) (ρ0 : Env) (N : Bool → Option Code → AH → Nat → Prop)
    (hN : ∀ H2 nx2, subH (nfB s c high (stepB s high q p)) ((5, some (loopB s c high .ready)) :: H2) → N true none H2 nx2) :
    Round ⟨Try.prog, w0, Wr, Φ0, ro, nt, k0, ρ0⟩ 5 none (trB s c high) Try.f79.ntmps bestLoop.ps bestLoop.l bestLoop.r 4 N ((22, pairA p) :: trB s c high) (nfB s c high q) 6 := by
  intro ρ Φ w lc
  refine W_reg rfl ?_
  refine Ra rfl rfl rfl (U_alloc) rfl rfl rfl ?_
  first | refine Rn rfl rfl rfl (U_storeAll rfl rfl rfl rfl rfl rfl) rfl ?_ | refine Rn rfl rfl rfl (U_store rfl rfl rfl rfl rfl (by decide) rfl rfl) rfl ?_
  refine Re rfl ?_
  refine thenQ_n ?_
  refine ⟨rfl, ?_⟩
  refine W_block rfl ?_
  refine W_seq rfl ?_
  refine W_reg rfl ?_
  refine Rv rfl rfl rfl (U_load1 rfl rfl rfl) rfl rfl ?_
  refine Rv rfl rfl rfl (U_load1 rfl rfl rfl) rfl rfl ?_
  refine Rv rfl rfl rfl (U_load2 rfl rfl rfl rfl) rfl rfl ?_
  refine Rv rfl rfl rfl (U_call rfl rfl (bnd_p s c hg high p hp) rfl) rfl rfl ?_
  refine Ra rfl rfl rfl (U_alloc) rfl rfl rfl ?_
  first | refine Rn rfl rfl rfl (U_storeAll rfl rfl rfl rfl rfl rfl) rfl ?_ | refine Rn rfl rfl rfl (U_store rfl rfl rfl rfl rfl (by decide) rfl rfl) rfl ?_
  refine Re rfl ?_
  refine thenQ_n ?_
  refine W_seq rfl ?_
  refine W_seq rfl ?_
  refine WdrawL [27] rfl (by kernel_rfl) (by kernel_rfl) ?_
  refine Dv rfl rfl rfl (U_load1 rfl rfl rfl) rfl rfl ?_
  refine Dv rfl rfl rfl (U_load2 rfl rfl rfl rfl) rfl rfl ?_
  refine Dv rfl rfl rfl (U_load1 rfl rfl rfl) rfl rfl ?_
  refine Dv rfl rfl rfl (U_load2 rfl rfl rfl rfl) rfl rfl ?_
  refine Dv rfl rfl rfl (U_lookup (j := 0) (v := ratA (bnd s high q.1)) rfl rfl rfl rfl rfl (.hit _ _ _)) rfl rfl ?_
  refine Dv rfl rfl rfl (U_call rfl rfl (better_p high _ _ (bnd_bd hg hp high) (bnd_bd hg hq high)) rfl) rfl rfl ?_
  refine Dv rfl rfl rfl (U_not rfl) rfl rfl ?_
  refine Dr.nil rfl ?_
  refine thenQ_n ?_
  refine Wcond rfl rfl (fun hb => ?_) (fun hb => ?_)
  · refine W_exit rfl ?_
    refine thenQ_x ?_
    refine blkQ_x rfl ?_
    refine ⟨rfl, hN _ _ ?_⟩
    first
      | (rw [step_no (by simpa using hb)]; exact ⟨rfl, rfl, rfl, rfl, rfl, rfl, trivial⟩)
      | (rw [step_yes (by simpa using hb)]; exact ⟨rfl, rfl, rfl, rfl, rfl, rfl, trivial⟩)
  · refine W_skip rfl ?_
    refine thenQ_n ?_
    refine W_seq rfl ?_
    refine W_reg rfl ?_
    refine Rv rfl rfl rfl (U_load1 rfl rfl rfl) rfl rfl ?_
    refine Rv rfl rfl rfl (U_load2 rfl rfl rfl rfl) rfl rfl ?_
    refine Rv rfl rfl rfl (U_load2 rfl rfl rfl rfl) rfl rfl ?_
    refine Rn rfl rfl rfl (U_mapUpdate rfl rfl rfl rfl rfl rfl (.miss0 (better_ne (by simpa using hb)) .nil)) rfl ?_
    refine Re rfl ?_
    refine thenQ_n ?_
    refine W_seq rfl ?_
    refine W_reg rfl ?_
    refine Rv rfl rfl rfl (U_load1 rfl rfl rfl) rfl rfl ?_
    refine Rv rfl rfl rfl (U_load2 rfl rfl rfl rfl) rfl rfl ?_
    refine Rn rfl rfl rfl (U_delete (j := 0) (u := ratA (bnd s high q.1)) rfl rfl rfl rfl rfl (.hit _ _ _)) rfl ?_
    refine Re rfl ?_
    refine thenQ_n ?_
    refine W_reg rfl ?_
    refine Rv rfl rfl rfl (U_load2 rfl rfl rfl rfl) rfl rfl ?_
    first | refine Rn rfl rfl rfl (U_storeAll rfl rfl rfl rfl rfl rfl) rfl ?_ | refine Rn rfl rfl rfl (U_store rfl rfl rfl rfl rfl (by decide) rfl rfl) rfl ?_
    refine Re rfl ?_
    refine blkQ_n ?_
    refine ⟨rfl, hN _ _ ?_⟩
    first
      | (rw [step_no (by simpa using hb)]; exact ⟨rfl, rfl, rfl, rfl, rfl, rfl, trivial⟩)
      | (rw [step_yes (by simpa using hb)]; exact ⟨rfl, rfl, rfl, rfl, rfl, rfl, trivial⟩)
end Go.Proofs.Ytapappdgdiaijaa
end

section
/- Contracts of package drift: all pairs, and the best bound. -/
namespace Go.Proofs.Ytapappdgdiaijaa
open Go.AE
theorem pairs_p (s : Star) (c : Option Nat) : Pure Try.prog 104 [cardA s c] (.fn 114 [] [.rop [cardA s c] 0]) := by
  refine pure_of_body Try.func104 (c := body Try.f104) rfl (by simp [Try.ntmps104]) fun w0 Φ0 => ?_
  refine W_seq rfl ?_
  refine W_reg rfl ?_
  refine Ra rfl rfl rfl (U_box rfl rfl) rfl rfl rfl ?_
  refine Rv rfl rfl rfl (U_assign rfl) rfl rfl ?_
  refine Re rfl ?_
  refine thenQ_n ?_
  refine W_seq rfl ?_
  refine Wfr 0 rfl rfl (T' := [(1, .rop [cardA s c] 0)]) (H' := []) ⟨rfl, trivial⟩ trivial ?_
  refine W_reg rfl ?_
  refine Rv rfl rfl rfl (U_makeFunc rfl rfl) rfl rfl ?_
  refine Rv rfl rfl rfl (U_assign rfl) rfl rfl ?_
  refine Re rfl ?_
  refine thenQ_n ?_
  refine W_ret rfl ?_
  exact ret1 rfl rfl rfl
def rowL (n i : Nat) : List (Int × Int) := (List.range' (i + 1) (n - (i + 1))).map fun k => (((i : Nat) : Int), ((k : Nat) : Int))
def preL (n i : Nat) : List (Int × Int) := (-1, -1) :: (List.range i).flatMap (rowL n)
def partL (i k : Nat) : List (Int × Int) := (List.range' (i + 1) (k - (i + 1))).map fun k => (((i : Nat) : Int), ((k : Nat) : Int))
theorem preL_succ (n i : Nat) : preL n (i + 1) = preL n i ++ rowL n i := by simp [preL, List.range_succ]
theorem partL_succ {i k : Nat} (h : i + 1 ≤ k) : partL i (k + 1) = partL i k ++ [((i : Int), (k : Int))] := by
  unfold partL
  rw [show k + 1 - (i + 1) = (k - (i + 1)) + 1 by omega, List.range'_concat]
  simp; omega
theorem bestQ_app (s : Star) (high : Bool) (l m : List (Int × Int)) : bestQ s high (l ++ m) = m.foldl (stepB s high) (bestQ s high l) := by simp [bestQ, List.foldl_append]
theorem best_pair {s : Star} {high : Bool} {l : List (Int × Int)} (h : ∀ p ∈ l, isPairB s.es.length p = true) : isPairB s.es.length (bestQ s high l).1 = true := by
  unfold bestQ
  have : ∀ (l : List (Int × Int)) (q : (Int × Int) × Nat), isPairB s.es.length q.1 = true → (∀ p ∈ l, isPairB s.es.length p = true) → isPairB s.es.length (l.foldl (stepB s high) q).1 = true := by
    intro l
    induction l with
    | nil => intro q hq _; exact hq
    | cons p l ih =>
      intro q hq hl
      refine ih _ ?_ fun p' hp' => hl p' (by simp [hp'])
      unfold stepB; split
      · exact hl p (by simp)
      · exact hq
  exact this l _ (by simp [isPairB]) h
theorem row_pair {n i : Nat} : ∀ p ∈ rowL n i, isPairB n p = true := by
  intro p hp
  simp only [rowL, List.mem_map, List.mem_range'_1] at hp
  obtain ⟨k, hk, rfl⟩ := hp
  simp [isPairB]; omega
theorem pre_pair {n i : Nat} : ∀ p ∈ preL n i, isPairB n p = true := by
  intro p hp
  simp only [preL, List.mem_cons, List.mem_flatMap] at hp
  rcases hp with rfl | ⟨j, _, hp⟩
  · simp [isPairB]
  · exact row_pair p hp
theorem part_pair {n i k : Nat} (hk : k ≤ n) : ∀ p ∈ partL i k, isPairB n p = true := by
  intro p hp
  simp only [partL, List.mem_map, List.mem_range'_1] at hp
  obtain ⟨j, hj, rfl⟩ := hp
  simp [isPairB]; omega
theorem bestP_pair (s : Star) (high : Bool) : isPairB s.es.length (bestP s high) = true := best_pair (l := pairsL s.es.length) (pre_pair (i := s.es.length))
theorem iterB_p (s : Star) (c : Option Nat) (hg : Good s) (high : Bool) : MutP Try.prog 114 [.yld 5, .rop [cardA s c] 0] (nfB s c high ((-1, -1), 1)) 6 (.tup []) (nfB s c high (bestQ s high (pairsL s.es.length))) 6 := by
  have hlen := hg.len
  refine mut_of_body Try.func114 (c := body Try.f114) rfl (Nat.le_refl _) (by simp [Try.ntmps114]) fun w0 Φ0 ρ0 => ?_
  refine W_seq rfl ?_
  refine W_seq rfl ?_
  refine W_reg rfl ?_
  refine Rv rfl rfl rfl (U_move rfl) rfl rfl ?_
  refine Rv rfl rfl rfl (U_build rfl rfl) rfl rfl ?_
  refine Ryield rfl rfl rfl rfl rfl rfl rfl rfl rfl rfl rfl (roundB s c hg high (((-1, -1), 1)) (by simp [isPairB]) ((-1, -1)) (by simp [isPairB]) _ _ _ _ _ _ _ _ (fun H2 nx2 hs => Rshrink (nx' := 6) (T' := [(7, .bool true), (0, .yld 5), (1, .rop [cardA s c] 0)]) (H' := nfB s c high (stepB s high (((-1, -1), 1)) ((-1, -1)))) ⟨rfl, rfl, rfl, trivial⟩ hs rfl rfl (by simp) rfl ?_))
  refine Rv rfl rfl rfl (U_not rfl) rfl rfl ?_
  refine Re rfl ?_
  refine thenQ_n ?_
  refine Wcond rfl rfl (fun hX => ?_) (fun hX => ?_)
  · cases hX
  · first
    | (cases hX; done)
    | refine W_skip rfl ?_
      refine thenQ_n ?_
      refine W_seq rfl ?_
      refine W_reg rfl ?_
      refine Rv rfl rfl rfl (U_load1 rfl rfl rfl) rfl rfl ?_
      first | refine Rv rfl rfl rfl (U_nilCheckR rfl) rfl rfl ?_ | refine Rv rfl rfl rfl (U_nilCheck rfl) rfl rfl ?_ | refine Rv rfl rfl rfl (U_nilCheckF rfl) rfl rfl ?_
      first | refine Rv rfl rfl rfl (U_fieldAddr rfl) rfl rfl ?_ | refine Rv rfl rfl rfl (U_fieldAddrR rfl) rfl rfl ?_
      first | refine Rv rfl rfl rfl (U_fieldAddr rfl) rfl rfl ?_ | refine Rv rfl rfl rfl (U_fieldAddrR rfl) rfl rfl ?_
      refine Rv rfl rfl rfl (U_load1 rfl rfl rfl) rfl rfl ?_
      first | refine Rv rfl rfl rfl (U_lenOf rfl len_ros) rfl rfl ?_ | refine Rv rfl rfl rfl (U_lenOf rfl len_slice) rfl rfl ?_ | refine Rv rfl rfl rfl (U_lenOf rfl len_sliceo) rfl rfl ?_ | refine Rv rfl rfl rfl (U_lenOf rfl len_nils) rfl rfl ?_
      refine Rv rfl rfl rfl (U_move rfl) rfl rfl ?_
      refine Re rfl ?_
      refine thenQ_n ?_
      refine W_block rfl ?_
      refine Wless (T' := [(15, i64 ((0 : Nat) : Int)), (14, i64 (s.es.length : Nat)), (0, .yld 5), (1, .rop [cardA s c] 0)]) (H' := nfB s c high (bestQ s high (preL s.es.length 0))) ⟨rfl, rfl, rfl, rfl, trivial⟩ ⟨rfl, rfl, rfl, rfl, rfl, rfl, trivial⟩ ?_
      refine Wloop rfl (fun m x => ∃ i : Nat, i ≤ s.es.length ∧ m = s.es.length - i ∧ x = ⟨[(15, i64 (i : Nat)), (14, i64 (s.es.length : Nat)), (0, .yld 5), (1, .rop [cardA s c] 0)], nfB s c high (bestQ s high (preL s.es.length i)), 6, []⟩) (n := s.es.length) ⟨0, Nat.zero_le _, rfl, rfl⟩ ?_
      rintro _ _ ⟨i, hi, rfl, rfl⟩
      refine W_seq rfl ?_
      refine W_reg rfl ?_
      refine Rv rfl rfl rfl (U_lss rfl rfl) rfl rfl ?_
      refine Re rfl ?_
      refine thenQ_n ?_
      refine W_seq rfl ?_
      refine WcondP rfl rfl (fun hcO => ?_) (fun hcO => ?_)
      · have hi2 : i < s.es.length := by omega
        refine W_skip rfl ?_
        refine thenQ_n ?_
        refine W_seq rfl ?_
        refine W_block rfl ?_
        refine W_seq rfl ?_
        refine W_reg rfl ?_
        refine Rv rfl rfl rfl (U_move rfl) rfl rfl ?_
        refine Rv rfl rfl rfl (U_assign rfl) rfl rfl ?_
        refine Re rfl ?_
        refine thenQ_n ?_
        refine W_seq rfl ?_
        refine W_reg rfl ?_
        refine Rv rfl rfl rfl (U_move rfl) rfl rfl ?_
        refine Rv rfl rfl rfl (U_add rfl rfl (w64e (m := ((i + 1 : Nat) : Int)) (by omega) (by omega) (by omega))) rfl rfl ?_
        refine Rv rfl rfl rfl (U_assign rfl) rfl rfl ?_
        refine Re rfl ?_
        refine thenQ_n ?_
        refine W_block rfl ?_
        refine Wless (T' := [(4, i64 ((i + 1 : Nat) : Int)), (3, i64 (i : Nat)), (15, i64 (i : Nat)), (14, i64 (s.es.length : Nat)), (0, .yld 5), (1, .rop [cardA s c] 0)]) (H' := nfB s c high (bestQ s high (preL s.es.length i))) ⟨rfl, rfl, rfl, rfl, rfl, rfl, trivial⟩ ⟨rfl, rfl, rfl, rfl, rfl, rfl, trivial⟩ ?_
        refine Wloop rfl (fun m x => ∃ k : Nat, i + 1 ≤ k ∧ k ≤ s.es.length ∧ m = s.es.length - k ∧ x = ⟨[(4, i64 (k : Nat)), (3, i64 (i : Nat)), (15, i64 (i : Nat)), (14, i64 (s.es.length : Nat)), (0, .yld 5), (1, .rop [cardA s c] 0)], nfB s c high (bestQ s high (preL s.es.length i ++ partL i k)), 6, []⟩) (n := s.es.length - (i + 1)) ⟨i + 1, Nat.le_refl _, hi2, rfl, by simp [partL]⟩ ?_
        rintro _ _ ⟨k, hk1, hk2, rfl, rfl⟩
        refine W_seq rfl ?_
        refine W_seq rfl ?_
        refine W_reg rfl ?_
        refine Rv rfl rfl rfl (U_move rfl) rfl rfl ?_
        refine Rv rfl rfl rfl (U_load1 rfl rfl rfl) rfl rfl ?_
        first | refine Rv rfl rfl rfl (U_nilCheckR rfl) rfl rfl ?_ | refine Rv rfl rfl rfl (U_nilCheck rfl) rfl rfl ?_ | refine Rv rfl rfl rfl (U_nilCheckF rfl) rfl rfl ?_
        first | refine Rv rfl rfl rfl (U_fieldAddr rfl) rfl rfl ?_ | refine Rv rfl rfl rfl (U_fieldAddrR rfl) rfl rfl ?_
        first | refine Rv rfl rfl rfl (U_fieldAddr rfl) rfl rfl ?_ | refine Rv rfl rfl rfl (U_fieldAddrR rfl) rfl rfl ?_
        refine Rv rfl rfl rfl (U_load1 rfl rfl rfl) rfl rfl ?_
        first | refine Rv rfl rfl rfl (U_lenOf rfl len_ros) rfl rfl ?_ | refine Rv rfl rfl rfl (U_lenOf rfl len_slice) rfl rfl ?_ | refine Rv rfl rfl rfl (U_lenOf rfl len_sliceo) rfl rfl ?_ | refine Rv rfl rfl rfl (U_lenOf rfl len_nils) rfl rfl ?_
        refine Rv rfl rfl rfl (U_lss rfl rfl) rfl rfl ?_
        refine Re rfl ?_
        refine thenQ_n ?_
        refine WcondP rfl rfl (fun hcI => ?_) (fun hcI => ?_)
        · have hk3 : k < s.es.length := by omega
          refine W_skip rfl ?_
          refine thenQ_n ?_
          refine W_seq rfl ?_
          refine W_block rfl ?_
          refine W_seq rfl ?_
          refine W_reg rfl ?_
          refine Rv rfl rfl rfl (U_move rfl) rfl rfl ?_
          refine Rv rfl rfl rfl (U_move rfl) rfl rfl ?_
          refine Rv rfl rfl rfl (U_move rfl) rfl rfl ?_
          refine Rv rfl rfl rfl (U_build rfl rfl) rfl rfl ?_
          refine Ryield rfl rfl rfl rfl rfl rfl rfl rfl rfl rfl rfl (roundB s c hg high (bestQ s high (preL s.es.length i ++ partL i k)) (best_pair (fun p hp => (List.mem_append.1 hp).elim (pre_pair p) (part_pair hk2 p))) (((i : Int), (k : Int))) (by simp [isPairB]; omega) _ _ _ _ _ _ _ _ (fun H2 nx2 hs => Rshrink (nx' := 6) (T' := [(34, .bool true), (4, i64 (k : Nat)), (3, i64 (i : Nat)), (15, i64 (i : Nat)), (14, i64 (s.es.length : Nat)), (0, .yld 5), (1, .rop [cardA s c] 0)]) (H' := nfB s c high (stepB s high (bestQ s high (preL s.es.length i ++ partL i k)) (((i : Int), (k : Int))))) ⟨rfl, rfl, rfl, rfl, rfl, rfl, rfl, trivial⟩ hs rfl rfl (by simp) rfl ?_))
          refine Rv rfl rfl rfl (U_not rfl) rfl rfl ?_
          refine Re rfl ?_
          refine thenQ_n ?_
          refine Wcond rfl rfl (fun hX => ?_) (fun hX => ?_)
          · cases hX
          · first
            | (cases hX; done)
            | refine W_skip rfl ?_
              refine blkQ_n ?_
              refine thenQ_n ?_
              refine W_reg rfl ?_
              refine Rv rfl rfl rfl (U_move rfl) rfl rfl ?_
              refine Rv rfl rfl rfl (U_add rfl rfl (w64e (m := ((k + 1 : Nat) : Int)) (by omega) (by omega) (by omega))) rfl rfl ?_
              refine Rv rfl rfl rfl (U_assign rfl) rfl rfl ?_
              refine Re rfl ?_
              refine thenQ_n ?_
              exact again (s.es.length - (k + 1)) (by omega) (T' := [(4, i64 ((k + 1 : Nat) : Int)), (3, i64 (i : Nat)), (15, i64 (i : Nat)), (14, i64 (s.es.length : Nat)), (0, .yld 5), (1, .rop [cardA s c] 0)]) (H' := nfB s c high (stepB s high (bestQ s high (preL s.es.length i ++ partL i k)) ((i : Int), (k : Int)))) ⟨rfl, rfl, rfl, rfl, rfl, rfl, trivial⟩ ⟨rfl, rfl, rfl, rfl, rfl, rfl, trivial⟩ ⟨k + 1, by omega, hk3, rfl, by rw [partL_succ hk1, ← List.append_assoc, bestQ_app s high _ [_]]; rfl⟩
        · refine W_exit rfl ?_
          refine thenQ_x ?_
          refine thenQ_x ?_
          refine blkQ_x rfl ?_
          refine blkQ_n ?_
          refine thenQ_n ?_
          refine W_reg rfl ?_
          refine Rv rfl rfl rfl (U_add rfl rfl (w64e (m := ((i + 1 : Nat) : Int)) (by omega) (by omega) (by omega))) rfl rfl ?_
          refine Rv rfl rfl rfl (U_move rfl) rfl rfl ?_
          refine Re rfl ?_
          refine thenQ_n ?_
          obtain rfl : k = s.es.length := by omega
          exact again (s.es.length - (i + 1)) (by omega) (T' := [(15, i64 ((i + 1 : Nat) : Int)), (14, i64 (s.es.length : Nat)), (0, .yld 5), (1, .rop [cardA s c] 0)]) (H' := nfB s c high (bestQ s high (preL s.es.length i ++ partL i s.es.length))) ⟨rfl, rfl, rfl, rfl, trivial⟩ ⟨rfl, rfl, rfl, rfl, rfl, rfl, trivial⟩ ⟨i + 1, hi2, rfl, by rw [preL_succ]; rfl⟩
      · refine W_exit rfl ?_
        refine thenQ_x ?_
        refine thenQ_x ?_
        refine blkQ_x rfl ?_
        obtain rfl : i = s.es.length := by omega
        exact retMn (T' := []) ⟨rfl, rfl, rfl, rfl, rfl, rfl, trivial⟩ rfl trivial rfl rfl rl0 rfl
end Go.Proofs.Ytapappdgdiaijaa
end

section
/- Contracts of package drift: the best bound, and whether some motion agrees. -/
namespace Go.Proofs.Ytapappdgdiaijaa
open Go.AE
theorem bestTrue_p (s : Star) (c : Option Nat) (hg : Good s) : Pure Try.prog 79 [cardA s c, .bool true] (pairA (bestP s true)) := by
  refine pure_of_bodyD Try.func79 (c := body Try.f79) rfl (by simp [Try.ntmps79]) fun w0 Φ0 => ?_
  refine W_seq rfl ?_
  refine W_reg rfl ?_
  refine Ra rfl rfl rfl (U_box rfl rfl) rfl rfl rfl ?_
  refine Ra rfl rfl rfl (U_box rfl rfl) rfl rfl rfl ?_
  refine Ra rfl rfl rfl (U_alloc) rfl rfl rfl ?_
  refine Re rfl ?_
  refine thenQ_n ?_
  refine W_seq rfl ?_
  refine W_reg rfl ?_
  refine Ra rfl rfl rfl (U_alloc) rfl rfl rfl ?_
  first | refine Rn rfl rfl rfl (U_store1 rfl rfl rfl rfl) rfl ?_ | refine Rn rfl rfl rfl (U_store rfl rfl rfl rfl rfl (by decide) rfl rfl) rfl ?_
  refine Re rfl ?_
  refine thenQ_n ?_
  refine W_seq rfl ?_
  refine W_seq rfl ?_
  refine W_reg rfl ?_
  refine Rv rfl rfl rfl (U_load1 rfl rfl rfl) rfl rfl ?_
  refine Rv rfl rfl rfl (U_not rfl) rfl rfl ?_
  refine Re rfl ?_
  refine thenQ_n ?_
  refine Wcond rfl rfl (fun hX => ?_) (fun hX => ?_)
  · first
    | (cases hX; done)
    | refine W_reg rfl ?_
      first | refine Rn rfl rfl rfl (U_store1 rfl rfl rfl rfl) rfl ?_ | refine Rn rfl rfl rfl (U_store rfl rfl rfl rfl rfl (by decide) rfl rfl) rfl ?_
      refine Re rfl ?_
      refine thenQ_n ?_
      refine W_seq rfl ?_
      refine W_reg rfl ?_
      refine Rv rfl rfl rfl (U_build rfl rfl) rfl rfl ?_
      refine Ra rfl rfl rfl (U_alloc) rfl rfl rfl ?_
      first | refine Rn rfl rfl rfl (U_storeAll rfl rfl rfl rfl rfl rfl) rfl ?_ | refine Rn rfl rfl rfl (U_store rfl rfl rfl rfl rfl (by decide) rfl rfl) rfl ?_
      refine Re rfl ?_
      refine thenQ_n ?_
      refine W_seq rfl ?_
      refine Wfr0 0 rfl rfl ?_
      refine Wfr0 1 rfl rfl ?_
      refine Wfr 3 rfl rfl (T' := [(2, .rop [cardA s c] 0), (3, .rop [.bool true] 0), (4, .ptr 2 0), (5, .rop [.fn (betF true) [] []] 0), (6, .ptr 4 0)]) (H' := [(4, some (.cells [i64 (-1), i64 (-1)] 108)), (2, some (.cells [i64 0, i64 0] 108))]) ⟨rfl, rfl, rfl, rfl, rfl, trivial⟩ ⟨rfl, rfl, trivial⟩ ?_
      refine Wdraw rfl (by kernel_rfl) (by kernel_rfl) ?_
      refine Da rfl rfl rfl (U_makeMap) rfl rfl rfl rfl ?_
      refine Dv rfl rfl rfl (U_load2 rfl rfl rfl rfl) rfl rfl ?_
      refine Dv rfl rfl rfl (U_load1 rfl rfl rfl) rfl rfl ?_
      refine Dv rfl rfl rfl (U_load1 rfl rfl rfl) rfl rfl ?_
      refine Dv rfl rfl rfl (U_load2 rfl rfl rfl rfl) rfl rfl ?_
      refine Dv rfl rfl rfl (U_call rfl rfl (bnd_p s c hg true (-1, -1) (by simp [isPairB])) rfl) rfl rfl ?_
      refine Dn_ rfl rfl rfl (U_insert rfl rfl rfl rfl rfl rfl .nil) rfl rfl ?_
      refine Dv rfl rfl rfl (U_move rfl) rfl rfl ?_
      refine Da rfl rfl rfl (U_alloc) rfl rfl rfl rfl ?_
      first | refine Dn_ rfl rfl rfl (U_store1 rfl rfl rfl rfl) rfl rfl ?_ | refine Dn_ rfl rfl rfl (U_store rfl rfl rfl rfl rfl (by decide) rfl rfl) rfl rfl ?_
      refine Dr.nil rfl ?_
      refine thenQ_n ?_
      refine W_seq rfl ?_
      refine W_seq rfl ?_
      refine W_reg rfl ?_
      refine Rv rfl rfl rfl (U_load1 rfl rfl rfl) rfl rfl ?_
      refine Rv rfl rfl rfl (U_call rfl rfl (pairs_p s c) rfl) rfl rfl ?_
      refine Re rfl ?_
      refine thenQ_n ?_
      refine W_block rfl ?_
      refine Wren (nx' := 4) (mapN [4, 5, 6, 2]) (T' := trB s c true) (H' := [(0, some (.cells [i64 (-1), i64 (-1)] 108)), (1, some (mapB s true ((-1, -1), 1))), (2, some (.cells [.mapl 1] 134)), (3, some (.cells [i64 0, i64 0] 108))]) ⟨rfl, rfl, rfl, rfl, rfl, rfl, rfl, trivial⟩ ⟨rfl, rfl, rfl, rfl, trivial⟩ rfl rfl rfl rfl (by simp) rfl (fun _ h => absurd h (Nat.not_lt_zero _)) ?_
      refine W_range rfl rfl rfl id (iterB_p s c hg true) rfl rfl ⟨rfl, rfl, rfl, rfl, rfl, rfl, trivial⟩ rfl (allLive_of rfl) (fun _ _ _ _ e => e) (fun _ hb => hb) rfl (by simp) ?_
      refine jumpQ_none ?_
      refine blkQ_n ?_
      refine thenQ_n ?_
      refine W_seq rfl ?_
      refine Wless (T' := [(6, .ptr 0 0), (4, .ptr 3 0)]) (H' := [(0, some (.cells [i64 (bestP s true).1, i64 (bestP s true).2] 108)), (3, some (.cells [i64 0, i64 0] 108)), (4, some (.defd false))]) ⟨rfl, rfl, trivial⟩ ⟨rfl, rfl, rfl, trivial⟩ ?_
      refine W_reg rfl ?_
      refine Rv rfl rfl rfl (U_load2 rfl rfl rfl rfl) rfl rfl ?_
      first | refine Rn rfl rfl rfl (U_storeAll rfl rfl rfl rfl rfl rfl) rfl ?_ | refine Rn rfl rfl rfl (U_store rfl rfl rfl rfl rfl (by decide) rfl rfl) rfl ?_
      refine Re rfl ?_
      refine thenQ_n ?_
      refine W_ret rfl ?_
      exact retD ⟨rfl, _, rlA rfl rfl rfl rl0, rfl⟩ rfl
  · first
    | (cases hX; done)
    | refine W_skip rfl ?_
      refine thenQ_n ?_
      refine W_seq rfl ?_
      refine W_reg rfl ?_
      refine Rv rfl rfl rfl (U_build rfl rfl) rfl rfl ?_
      refine Ra rfl rfl rfl (U_alloc) rfl rfl rfl ?_
      first | refine Rn rfl rfl rfl (U_storeAll rfl rfl rfl rfl rfl rfl) rfl ?_ | refine Rn rfl rfl rfl (U_store rfl rfl rfl rfl rfl (by decide) rfl rfl) rfl ?_
      refine Re rfl ?_
      refine thenQ_n ?_
      refine W_seq rfl ?_
      refine Wfr0 0 rfl rfl ?_
      refine Wfr0 1 rfl rfl ?_
      refine Wfr 3 rfl rfl (T' := [(2, .rop [cardA s c] 0), (3, .rop [.bool true] 0), (4, .ptr 2 0), (5, .rop [.fn (betF true) [] []] 0), (6, .ptr 4 0)]) (H' := [(4, some (.cells [i64 (-1), i64 (-1)] 108)), (2, some (.cells [i64 0, i64 0] 108))]) ⟨rfl, rfl, rfl, rfl, rfl, trivial⟩ ⟨rfl, rfl, trivial⟩ ?_
      refine Wdraw rfl (by kernel_rfl) (by kernel_rfl) ?_
      refine Da rfl rfl rfl (U_makeMap) rfl rfl rfl rfl ?_
      refine Dv rfl rfl rfl (U_load2 rfl rfl rfl rfl) rfl rfl ?_
      refine Dv rfl rfl rfl (U_load1 rfl rfl rfl) rfl rfl ?_
      refine Dv rfl rfl rfl (U_load1 rfl rfl rfl) rfl rfl ?_
      refine Dv rfl rfl rfl (U_load2 rfl rfl rfl rfl) rfl rfl ?_
      refine Dv rfl rfl rfl (U_call rfl rfl (bnd_p s c hg true (-1, -1) (by simp [isPairB])) rfl) rfl rfl ?_
      refine Dn_ rfl rfl rfl (U_insert rfl rfl rfl rfl rfl rfl .nil) rfl rfl ?_
      refine Dv rfl rfl rfl (U_move rfl) rfl rfl ?_
      refine Da rfl rfl rfl (U_alloc) rfl rfl rfl rfl ?_
      first | refine Dn_ rfl rfl rfl (U_store1 rfl rfl rfl rfl) rfl rfl ?_ | refine Dn_ rfl rfl rfl (U_store rfl rfl rfl rfl rfl (by decide) rfl rfl) rfl rfl ?_
      refine Dr.nil rfl ?_
      refine thenQ_n ?_
      refine W_seq rfl ?_
      refine W_seq rfl ?_
      refine W_reg rfl ?_
      refine Rv rfl rfl rfl (U_load1 rfl rfl rfl) rfl rfl ?_
      refine Rv rfl rfl rfl (U_call rfl rfl (pairs_p s c) rfl) rfl rfl ?_
      refine Re rfl ?_
      refine thenQ_n ?_
      refine W_block rfl ?_
      refine Wren (nx' := 4) (mapN [4, 5, 6, 2]) (T' := trB s c true) (H' := [(0, some (.cells [i64 (-1), i64 (-1)] 108)), (1, some (mapB s true ((-1, -1), 1))), (2, some (.cells [.mapl 1] 134)), (3, some (.cells [i64 0, i64 0] 108))]) ⟨rfl, rfl, rfl, rfl, rfl, rfl, rfl, trivial⟩ ⟨rfl, rfl, rfl, rfl, trivial⟩ rfl rfl rfl rfl (by simp) rfl (fun _ h => absurd h (Nat.not_lt_zero _)) ?_
      refine W_range rfl rfl rfl id (iterB_p s c hg true) rfl rfl ⟨rfl, rfl, rfl, rfl, rfl, rfl, trivial⟩ rfl (allLive_of rfl) (fun _ _ _ _ e => e) (fun _ hb => hb) rfl (by simp) ?_
      refine jumpQ_none ?_
      refine blkQ_n ?_
      refine thenQ_n ?_
      refine W_seq rfl ?_
      refine Wless (T' := [(6, .ptr 0 0), (4, .ptr 3 0)]) (H' := [(0, some (.cells [i64 (bestP s true).1, i64 (bestP s true).2] 108)), (3, some (.cells [i64 0, i64 0] 108)), (4, some (.defd false))]) ⟨rfl, rfl, trivial⟩ ⟨rfl, rfl, rfl, trivial⟩ ?_
      refine W_reg rfl ?_
      refine Rv rfl rfl rfl (U_load2 rfl rfl rfl rfl) rfl rfl ?_
      first | refine Rn rfl rfl rfl (U_storeAll rfl rfl rfl rfl rfl rfl) rfl ?_ | refine Rn rfl rfl rfl (U_store rfl rfl rfl rfl rfl (by decide) rfl rfl) rfl ?_
      refine Re rfl ?_
      refine thenQ_n ?_
      refine W_ret rfl ?_
      exact retD ⟨rfl, _, rlA rfl rfl rfl rl0, rfl⟩ rfl
theorem bestFalse_p (s : Star) (c : Option Nat) (hg : Good s) : Pure Try.prog 79 [cardA s c, .bool false] (pairA (bestP s false)) := by
  refine pure_of_bodyD Try.func79 (c := body Try.f79) rfl (by simp [Try.ntmps79]) fun w0 Φ0 => ?_
  refine W_seq rfl ?_
  refine W_reg rfl ?_
  refine Ra rfl rfl rfl (U_box rfl rfl) rfl rfl rfl ?_
  refine Ra rfl rfl rfl (U_box rfl rfl) rfl rfl rfl ?_
  refine Ra rfl rfl rfl (U_alloc) rfl rfl rfl ?_
  refine Re rfl ?_
  refine thenQ_n ?_
  refine W_seq rfl ?_
  refine W_reg rfl ?_
  refine Ra rfl rfl rfl (U_alloc) rfl rfl rfl ?_
  first | refine Rn rfl rfl rfl (U_store1 rfl rfl rfl rfl) rfl ?_ | refine Rn rfl rfl rfl (U_store rfl rfl rfl rfl rfl (by decide) rfl rfl) rfl ?_
  refine Re rfl ?_
  refine thenQ_n ?_
  refine W_seq rfl ?_
  refine W_seq rfl ?_
  refine W_reg rfl ?_
  refine Rv rfl rfl rfl (U_load1 rfl rfl rfl) rfl rfl ?_
  refine Rv rfl rfl rfl (U_not rfl) rfl rfl ?_
  refine Re rfl ?_
  refine thenQ_n ?_
  refine Wcond rfl rfl (fun hX => ?_) (fun hX => ?_)
  · first
    | (cases hX; done)
    | refine W_reg rfl ?_
      first | refine Rn rfl rfl rfl (U_store1 rfl rfl rfl rfl) rfl ?_ | refine Rn rfl rfl rfl (U_store rfl rfl rfl rfl rfl (by decide) rfl rfl) rfl ?_
      refine Re rfl ?_
      refine thenQ_n ?_
      refine W_seq rfl ?_
      refine W_reg rfl ?_
      refine Rv rfl rfl rfl (U_build rfl rfl) rfl rfl ?_
      refine Ra rfl rfl rfl (U_alloc) rfl rfl rfl ?_
      first | refine Rn rfl rfl rfl (U_storeAll rfl rfl rfl rfl rfl rfl) rfl ?_ | refine Rn rfl rfl rfl (U_store rfl rfl rfl rfl rfl (by decide) rfl rfl) rfl ?_
      refine Re rfl ?_
      refine thenQ_n ?_
      refine W_seq rfl ?_
      refine Wfr0 0 rfl rfl ?_
      refine Wfr0 1 rfl rfl ?_
      refine Wfr 3 rfl rfl (T' := [(2, .rop [cardA s c] 0), (3, .rop [.bool false] 0), (4, .ptr 2 0), (5, .rop [.fn (betF false) [] []] 0), (6, .ptr 4 0)]) (H' := [(4, some (.cells [i64 (-1), i64 (-1)] 108)), (2, some (.cells [i64 0, i64 0] 108))]) ⟨rfl, rfl, rfl, rfl, rfl, trivial⟩ ⟨rfl, rfl, trivial⟩ ?_
      refine Wdraw rfl (by kernel_rfl) (by kernel_rfl) ?_
      refine Da rfl rfl rfl (U_makeMap) rfl rfl rfl rfl ?_
      refine Dv rfl rfl rfl (U_load2 rfl rfl rfl rfl) rfl rfl ?_
      refine Dv rfl rfl rfl (U_load1 rfl rfl rfl) rfl rfl ?_
      refine Dv rfl rfl rfl (U_load1 rfl rfl rfl) rfl rfl ?_
      refine Dv rfl rfl rfl (U_load2 rfl rfl rfl rfl) rfl rfl ?_
      refine Dv rfl rfl rfl (U_call rfl rfl (bnd_p s c hg false (-1, -1) (by simp [isPairB])) rfl) rfl rfl ?_
      refine Dn_ rfl rfl rfl (U_insert rfl rfl rfl rfl rfl rfl .nil) rfl rfl ?_
      refine Dv rfl rfl rfl (U_move rfl) rfl rfl ?_
      refine Da rfl rfl rfl (U_alloc) rfl rfl rfl rfl ?_
      first | refine Dn_ rfl rfl rfl (U_store1 rfl rfl rfl rfl) rfl rfl ?_ | refine Dn_ rfl rfl rfl (U_store rfl rfl rfl rfl rfl (by decide) rfl rfl) rfl rfl ?_
      refine Dr.nil rfl ?_
      refine thenQ_n ?_
      refine W_seq rfl ?_
      refine W_seq rfl ?_
      refine W_reg rfl ?_
      refine Rv rfl rfl rfl (U_load1 rfl rfl rfl) rfl rfl ?_
      refine Rv rfl rfl rfl (U_call rfl rfl (pairs_p s c) rfl) rfl rfl ?_
      refine Re rfl ?_
      refine thenQ_n ?_
      refine W_block rfl ?_
      refine Wren (nx' := 4) (mapN [4, 5, 6, 2]) (T' := trB s c false) (H' := [(0, some (.cells [i64 (-1), i64 (-1)] 108)), (1, some (mapB s false ((-1, -1), 1))), (2, some (.cells [.mapl 1] 134)), (3, some (.cells [i64 0, i64 0] 108))]) ⟨rfl, rfl, rfl, rfl, rfl, rfl, rfl, trivial⟩ ⟨rfl, rfl, rfl, rfl, trivial⟩ rfl rfl rfl rfl (by simp) rfl (fun _ h => absurd h (Nat.not_lt_zero _)) ?_
      refine W_range rfl rfl rfl id (iterB_p s c hg false) rfl rfl ⟨rfl, rfl, rfl, rfl, rfl, rfl, trivial⟩ rfl (allLive_of rfl) (fun _ _ _ _ e => e) (fun _ hb => hb) rfl (by simp) ?_
      refine jumpQ_none ?_
      refine blkQ_n ?_
      refine thenQ_n ?_
      refine W_seq rfl ?_
      refine Wless (T' := [(6, .ptr 0 0), (4, .ptr 3 0)]) (H' := [(0, some (.cells [i64 (bestP s false).1, i64 (bestP s false).2] 108)), (3, some (.cells [i64 0, i64 0] 108)), (4, some (.defd false))]) ⟨rfl, rfl, trivial⟩ ⟨rfl, rfl, rfl, trivial⟩ ?_
      refine W_reg rfl ?_
      refine Rv rfl rfl rfl (U_load2 rfl rfl rfl rfl) rfl rfl ?_
      first | refine Rn rfl rfl rfl (U_storeAll rfl rfl rfl rfl rfl rfl) rfl ?_ | refine Rn rfl rfl rfl (U_store rfl rfl rfl rfl rfl (by decide) rfl rfl) rfl ?_
      refine Re rfl ?_
      refine thenQ_n ?_
      refine W_ret rfl ?_
      exact retD ⟨rfl, _, rlA rfl rfl rfl rl0, rfl⟩ rfl
  · first
    | (cases hX; done)
    | refine W_skip rfl ?_
      refine thenQ_n ?_
      refine W_seq rfl ?_
      refine W_reg rfl ?_
      refine Rv rfl rfl rfl (U_build rfl rfl) rfl rfl ?_
      refine Ra rfl rfl rfl (U_alloc) rfl rfl rfl ?_
      first | refine Rn rfl rfl rfl (U_storeAll rfl rfl rfl rfl rfl rfl) rfl ?_ | refine Rn rfl rfl rfl (U_store rfl rfl rfl rfl rfl (by decide) rfl rfl) rfl ?_
      refine Re rfl ?_
      refine thenQ_n ?_
      refine W_seq rfl ?_
      refine Wfr0 0 rfl rfl ?_
      refine Wfr0 1 rfl rfl ?_
      refine Wfr 3 rfl rfl (T' := [(2, .rop [cardA s c] 0), (3, .rop [.bool false] 0), (4, .ptr 2 0), (5, .rop [.fn (betF false) [] []] 0), (6, .ptr 4 0)]) (H' := [(4, some (.cells [i64 (-1), i64 (-1)] 108)), (2, some (.cells [i64 0, i64 0] 108))]) ⟨rfl, rfl, rfl, rfl, rfl, trivial⟩ ⟨rfl, rfl, trivial⟩ ?_
      refine Wdraw rfl (by kernel_rfl) (by kernel_rfl) ?_
      refine Da rfl rfl rfl (U_makeMap) rfl rfl rfl rfl ?_
      refine Dv rfl rfl rfl (U_load2 rfl rfl rfl rfl) rfl rfl ?_
      refine Dv rfl rfl rfl (U_load1 rfl rfl rfl) rfl rfl ?_
      refine Dv rfl rfl rfl (U_load1 rfl rfl rfl) rfl rfl ?_
      refine Dv rfl rfl rfl (U_load2 rfl rfl rfl rfl) rfl rfl ?_
      refine Dv rfl rfl rfl (U_call rfl rfl (bnd_p s c hg false (-1, -1) (by simp [isPairB])) rfl) rfl rfl ?_
      refine Dn_ rfl rfl rfl (U_insert rfl rfl rfl rfl rfl rfl .nil) rfl rfl ?_
      refine Dv rfl rfl rfl (U_move rfl) rfl rfl ?_
      refine Da rfl rfl rfl (U_alloc) rfl rfl rfl rfl ?_
      first | refine Dn_ rfl rfl rfl (U_store1 rfl rfl rfl rfl) rfl rfl ?_ | refine Dn_ rfl rfl rfl (U_store rfl rfl rfl rfl rfl (by decide) rfl rfl) rfl rfl ?_
      refine Dr.nil rfl ?_
      refine thenQ_n ?_
      refine W_seq rfl ?_
      refine W_seq rfl ?_
      refine W_reg rfl ?_
      refine Rv rfl rfl rfl (U_load1 rfl rfl rfl) rfl rfl ?_
      refine Rv rfl rfl rfl (U_call rfl rfl (pairs_p s c) rfl) rfl rfl ?_
      refine Re rfl ?_
      refine thenQ_n ?_
      refine W_block rfl ?_
      refine Wren (nx' := 4) (mapN [4, 5, 6, 2]) (T' := trB s c false) (H' := [(0, some (.cells [i64 (-1), i64 (-1)] 108)), (1, some (mapB s false ((-1, -1), 1))), (2, some (.cells [.mapl 1] 134)), (3, some (.cells [i64 0, i64 0] 108))]) ⟨rfl, rfl, rfl, rfl, rfl, rfl, rfl, trivial⟩ ⟨rfl, rfl, rfl, rfl, trivial⟩ rfl rfl rfl rfl (by simp) rfl (fun _ h => absurd h (Nat.not_lt_zero _)) ?_
      refine W_range rfl rfl rfl id (iterB_p s c hg false) rfl rfl ⟨rfl, rfl, rfl, rfl, rfl, rfl, trivial⟩ rfl (allLive_of rfl) (fun _ _ _ _ e => e) (fun _ hb => hb) rfl (by simp) ?_
      refine jumpQ_none ?_
      refine blkQ_n ?_
      refine thenQ_n ?_
      refine W_seq rfl ?_
      refine Wless (T' := [(6, .ptr 0 0), (4, .ptr 3 0)]) (H' := [(0, some (.cells [i64 (bestP s false).1, i64 (bestP s false).2] 108)), (3, some (.cells [i64 0, i64 0] 108)), (4, some (.defd false))]) ⟨rfl, rfl, trivial⟩ ⟨rfl, rfl, rfl, trivial⟩ ?_
      refine W_reg rfl ?_
      refine Rv rfl rfl rfl (U_load2 rfl rfl rfl rfl) rfl rfl ?_
      first | refine Rn rfl rfl rfl (U_storeAll rfl rfl rfl rfl rfl rfl) rfl ?_ | refine Rn rfl rfl rfl (U_store rfl rfl rfl rfl rfl (by decide) rfl rfl) rfl ?_
      refine Re rfl ?_
      refine thenQ_n ?_
      refine W_ret rfl ?_
      exact retD ⟨rfl, _, rlA rfl rfl rfl rl0, rfl⟩ rfl
theorem best_p (s : Star) (c : Option Nat) (hg : Good s) (high : Bool) : Pure Try.prog 79 [cardA s c, .bool high] (pairA (bestP s high)) := by
  cases high
  · exact bestFalse_p s c hg
  · exact bestTrue_p s c hg
def endQ (s : Star) (high : Bool) : Int × Int := bnd s high (bestP s high)
theorem end_bd {s : Star} (hg : Good s) (high : Bool) : Bd 20000 200 (endQ s high) := bnd_bd hg (bestP_pair s high) high
theorem end_p (s : Star) (c : Option Nat) (hg : Good s) (high : Bool) : Pure Try.prog 83 [cardA s c, .bool high] (ratA (endQ s high)) := by
  refine pure_of_body Try.func83 (c := body Try.f83) rfl (by simp [Try.ntmps83]) fun w0 Φ0 => ?_
  refine W_seq rfl ?_
  refine W_reg rfl ?_
  refine Ra rfl rfl rfl (U_alloc) rfl rfl rfl ?_
  refine Re rfl ?_
  refine thenQ_n ?_
  refine W_seq rfl ?_
  refine W_reg rfl ?_
  refine Rv rfl rfl rfl (U_move rfl) rfl rfl ?_
  refine Rv rfl rfl rfl (U_move rfl) rfl rfl ?_
  refine Rv rfl rfl rfl (U_move rfl) rfl rfl ?_
  refine Rv rfl rfl rfl (U_move rfl) rfl rfl ?_
  refine Rv rfl rfl rfl (U_call rfl rfl (best_p s c hg high) rfl) rfl rfl ?_
  refine Rv rfl rfl rfl (U_call rfl rfl (bnd_p s c hg high (bestP s high) (bestP_pair s high)) rfl) rfl rfl ?_
  first | refine Rn rfl rfl rfl (U_storeAll rfl rfl rfl rfl rfl rfl) rfl ?_ | refine Rn rfl rfl rfl (U_store rfl rfl rfl rfl rfl (by decide) rfl rfl) rfl ?_
  refine Re rfl ?_
  refine thenQ_n ?_
  refine W_ret rfl ?_
  exact retC rfl rfl rfl rfl rfl
def hasB (s : Star) : Bool := !lessQ (endQ s true) (endQ s false)
theorem has_p (s : Star) (c : Option Nat) (hg : Good s) : Pure Try.prog 81 [cardA s c] (.bool (hasB s)) := by
  refine pure_of_body Try.func81 (c := body Try.f81) rfl (by simp [Try.ntmps81]) fun w0 Φ0 => ?_
  refine W_seq rfl ?_
  refine W_reg rfl ?_
  refine Rv rfl rfl rfl (U_assign rfl) rfl rfl ?_
  refine Re rfl ?_
  refine thenQ_n ?_
  refine W_seq rfl ?_
  refine W_reg rfl ?_
  refine Rv rfl rfl rfl (U_move rfl) rfl rfl ?_
  refine Rv rfl rfl rfl (U_call rfl rfl (end_p s c hg true) rfl) rfl rfl ?_
  refine Rv rfl rfl rfl (U_move rfl) rfl rfl ?_
  refine Rv rfl rfl rfl (U_call rfl rfl (end_p s c hg false) rfl) rfl rfl ?_
  refine Rv rfl rfl rfl (U_call rfl rfl (less_p _ _ (bd_prod (end_bd hg true) (end_bd hg false) (by omega)) (bd_prod (end_bd hg false) (end_bd hg true) (by omega))) rfl) rfl rfl ?_
  refine Rv rfl rfl rfl (U_not rfl) rfl rfl ?_
  refine Rv rfl rfl rfl (U_assign rfl) rfl rfl ?_
  refine Re rfl ?_
  refine thenQ_n ?_
  refine W_ret rfl ?_
  exact ret1 rfl rfl rfl
theorem good_of {s : Star} (h : chkS s = 0) : Good s := by
  unfold chkS at h
  split at h
  · omega
  · rename_i h1
    split at h
    · omega
    · rename_i h2
      split at h
      · rename_i h3
        simp [inL] at h1
        simp only [Bool.or_eq_true, not_or, Bool.not_eq_true, Bool.not_eq_false', List.any_eq_false] at h2
        obtain ⟨h4, h5⟩ := h2
        simp [rangeB, inL] at h4
        have h6 : ∀ (i : Nat) (h : i < s.es.length), 0 ≤ s.es[i].y ∧ s.es[i].y ≤ 200 ∧ -10000 ≤ s.es[i].lo ∧ s.es[i].lo ≤ 10000 ∧ -10000 ≤ s.es[i].hi ∧ s.es[i].hi ≤ 10000 := fun i h => by
          have := h5 _ (List.getElem_mem h)
          simp [oddB, rangeB, inL] at this; omega
        have h7 : ∀ (l : List Ent) (last : Int), incr last l = true → (∀ e ∈ l, last < e.y) ∧ l.Pairwise fun a b => a.y < b.y := by
          intro l
          induction l with
          | nil => intro last _; simp
          | cons e l ih =>
            intro last h
            simp only [incr] at h
            split at h
            · cases h
            · obtain ⟨e1, e2⟩ := ih _ h
              refine ⟨fun x hx => ?_, List.pairwise_cons.2 ⟨e1, e2⟩⟩
              rcases List.mem_cons.1 hx with rfl | hx
              · omega
              · have := e1 x hx; omega
        obtain ⟨_, h8⟩ := h7 _ _ h3
        exact ⟨by omega, by omega, h6, fun i k hi hk => List.pairwise_iff_getElem.1 h8 i k (by omega) hk hi, by omega⟩
      · omega
end Go.Proofs.Ytapappdgdiaijaa
end

section
/- Contracts of package drift: what it exports, first part. -/
namespace Go.Proofs.Ytapappdgdiaijaa
open Go.AE
/-- The error of a star with which some motion should agree. -/
def movS (s : Star) : Int := if chkS s = 0 then (if hasB s = true then 0 else 17) else chkS s
theorem mov_chk {s : Star} (h : movS s = 0) : chkS s = 0 := by
  unfold movS at h; split at h
  · assumption
  · omega
theorem moved_p (s : Star) (c : Option Nat) (hl : s.es.length ≤ 1000000) : Pure Try.prog 78 [starA s c] (.tup [if movS s = 0 then cardA s c else .nilp, i64 (movS s)]) := by
  refine pure_of_body Try.func78 (c := body Try.f78) rfl (by simp [Try.ntmps78]) fun w0 Φ0 => ?_
  refine W_seq rfl ?_
  refine W_reg rfl ?_
  refine Ra rfl rfl rfl (U_box rfl rfl) rfl rfl rfl ?_
  refine Rv rfl rfl rfl (U_assign rfl) rfl rfl ?_
  refine Rv rfl rfl rfl (U_assign rfl) rfl rfl ?_
  refine Re rfl ?_
  refine thenQ_n ?_
  refine W_seq rfl ?_
  refine W_reg rfl ?_
  refine Rv rfl rfl rfl (U_load3 rfl rfl rfl rfl rfl) rfl rfl ?_
  refine Rv rfl rfl rfl (U_call rfl rfl (open_p s c hl) rfl) rfl rfl ?_
  refine Rv rfl rfl rfl (U_move rfl) rfl rfl ?_
  refine Rv rfl rfl rfl (U_extract rfl rfl) rfl rfl ?_
  refine Rv rfl rfl rfl (U_extract rfl rfl) rfl rfl ?_
  refine Rv rfl rfl rfl (U_assign rfl) rfl rfl ?_
  refine Rv rfl rfl rfl (U_assign rfl) rfl rfl ?_
  refine Re rfl ?_
  refine thenQ_n ?_
  refine W_seq rfl ?_
  refine W_block rfl ?_
  refine W_seq rfl ?_
  refine W_reg rfl ?_
  refine Rv rfl rfl rfl (U_move rfl) rfl rfl ?_
  first | refine Rv rfl rfl rfl (U_neq rfl rfl) rfl rfl ?_ | refine Rv rfl rfl rfl (U_neqA rfl rfl rfl rfl rfl rfl Iff.rfl) rfl rfl ?_ | refine Rv rfl rfl rfl (U_neqB rfl rfl) rfl rfl ?_
  refine Rv rfl rfl rfl (U_assign rfl) rfl rfl ?_
  refine Re rfl ?_
  refine thenQ_n ?_
  refine WcondP rfl rfl (fun h0 => ?_) (fun h0 => ?_)
  · refine W_seq rfl ?_
    refine W_reg rfl ?_
    refine Rv rfl rfl rfl (U_move rfl) rfl rfl ?_
    refine Rv rfl rfl rfl (U_assign rfl) rfl rfl ?_
    refine Rv rfl rfl rfl (U_assign rfl) rfl rfl ?_
    refine Re rfl ?_
    refine thenQ_n ?_
    refine W_ret rfl ?_
    refine blkQ_r ?_
    refine thenQ_r ?_
    first
      | (have he : movS s = chkS s := by rw [movS, if_neg h0]
         rw [he, if_neg h0]; exact retL (rlT rfl (rlT rfl rl0)) rfl rfl)
      | (have he : movS s = 17 := by rw [movS, if_pos h0, if_neg (by simpa using hB)]
         rw [he, if_neg (by omega)]; exact retL (rlT rfl (rlT rfl rl0)) rfl rfl)
      | (have he : movS s = 0 := by rw [movS, if_pos h0, if_pos (by simpa using hB)]
         rw [he, if_pos rfl]; exact retL (rlT rfl (rlT rfl rl0)) rfl rfl)
  · rw [Decidable.not_not] at h0
    rw [if_pos h0]
    refine W_seq rfl ?_
    refine W_reg rfl ?_
    refine Rv rfl rfl rfl (U_move rfl) rfl rfl ?_
    refine Rv rfl rfl rfl (U_call rfl rfl (has_p s c (good_of h0)) rfl) rfl rfl ?_
    refine Rv rfl rfl rfl (U_not rfl) rfl rfl ?_
    refine Rv rfl rfl rfl (U_assign rfl) rfl rfl ?_
    refine Re rfl ?_
    refine thenQ_n ?_
    refine Wcond rfl rfl (fun hB => ?_) (fun hB => ?_)
    · refine W_seq rfl ?_
      refine W_reg rfl ?_
      refine Rv rfl rfl rfl (U_assign rfl) rfl rfl ?_
      refine Rv rfl rfl rfl (U_assign rfl) rfl rfl ?_
      refine Re rfl ?_
      refine thenQ_n ?_
      refine W_ret rfl ?_
      refine blkQ_r ?_
      refine thenQ_r ?_
      first
        | (have he : movS s = chkS s := by rw [movS, if_neg h0]
           rw [he, if_neg h0]; exact retL (rlT rfl (rlT rfl rl0)) rfl rfl)
        | (have he : movS s = 17 := by rw [movS, if_pos h0, if_neg (by simpa using hB)]
           rw [he, if_neg (by omega)]; exact retL (rlT rfl (rlT rfl rl0)) rfl rfl)
        | (have he : movS s = 0 := by rw [movS, if_pos h0, if_pos (by simpa using hB)]
           rw [he, if_pos rfl]; exact retL (rlT rfl (rlT rfl rl0)) rfl rfl)
    · refine W_skip rfl ?_
      refine blkQ_n ?_
      refine thenQ_n ?_
      refine W_seq rfl ?_
      refine W_reg rfl ?_
      refine Rv rfl rfl rfl (U_move rfl) rfl rfl ?_
      refine Rv rfl rfl rfl (U_assign rfl) rfl rfl ?_
      refine Rv rfl rfl rfl (U_assign rfl) rfl rfl ?_
      refine Re rfl ?_
      refine thenQ_n ?_
      refine W_ret rfl ?_
      first
        | (have he : movS s = chkS s := by rw [movS, if_neg h0]
           rw [he, if_neg h0]; exact retL (rlT rfl (rlT rfl rl0)) rfl rfl)
        | (have he : movS s = 17 := by rw [movS, if_pos h0, if_neg (by simpa using hB)]
           rw [he, if_neg (by omega)]; exact retL (rlT rfl (rlT rfl rl0)) rfl rfl)
        | (have he : movS s = 0 := by rw [movS, if_pos h0, if_pos (by simpa using hB)]
           rw [he, if_pos rfl]; exact retL (rlT rfl (rlT rfl rl0)) rfl rfl)
/-- .. and that of a year. -/
def plcS (s : Star) (y : Int) : Int := if chkS s = 0 then (if inL 0 200 [y] = true then movS s else 2) else chkS s
theorem plc_mov {s : Star} {y : Int} (h : plcS s y = 0) : movS s = 0 ∧ 0 ≤ y ∧ y ≤ 200 := by
  unfold plcS at h; split at h
  · split at h
    · rename_i h2; simp [inL] at h2; exact ⟨h, h2.1, h2.2⟩
    · omega
  · omega
theorem placed_p (s : Star) (c : Option Nat) (hl : s.es.length ≤ 1000000) (y : Int) : Pure Try.prog 84 [starA s c, i64 y] (.tup [if plcS s y = 0 then cardA s c else .nilp, i64 (plcS s y)]) := by
  refine pure_of_body Try.func84 (c := body Try.f84) rfl (by simp [Try.ntmps84]) fun w0 Φ0 => ?_
  refine W_seq rfl ?_
  refine W_reg rfl ?_
  refine Ra rfl rfl rfl (U_box rfl rfl) rfl rfl rfl ?_
  refine Rv rfl rfl rfl (U_assign rfl) rfl rfl ?_
  refine Rv rfl rfl rfl (U_assign rfl) rfl rfl ?_
  refine Re rfl ?_
  refine thenQ_n ?_
  refine W_seq rfl ?_
  refine W_reg rfl ?_
  refine Rv rfl rfl rfl (U_loadAll rfl rfl rfl) rfl rfl ?_
  refine Rv rfl rfl rfl (U_call rfl rfl (chk_p s c hl) rfl) rfl rfl ?_
  refine Rv rfl rfl rfl (U_assign rfl) rfl rfl ?_
  refine Re rfl ?_
  refine thenQ_n ?_
  refine W_seq rfl ?_
  refine W_block rfl ?_
  refine W_seq rfl ?_
  refine W_reg rfl ?_
  refine Rv rfl rfl rfl (U_move rfl) rfl rfl ?_
  first | refine Rv rfl rfl rfl (U_neq rfl rfl) rfl rfl ?_ | refine Rv rfl rfl rfl (U_neqA rfl rfl rfl rfl rfl rfl Iff.rfl) rfl rfl ?_ | refine Rv rfl rfl rfl (U_neqB rfl rfl) rfl rfl ?_
  refine Rv rfl rfl rfl (U_assign rfl) rfl rfl ?_
  refine Re rfl ?_
  refine thenQ_n ?_
  refine WcondP rfl rfl (fun h0 => ?_) (fun h0 => ?_)
  · refine W_seq rfl ?_
    refine W_reg rfl ?_
    refine Rv rfl rfl rfl (U_move rfl) rfl rfl ?_
    refine Rv rfl rfl rfl (U_assign rfl) rfl rfl ?_
    refine Rv rfl rfl rfl (U_assign rfl) rfl rfl ?_
    refine Re rfl ?_
    refine thenQ_n ?_
    refine W_ret rfl ?_
    refine blkQ_r ?_
    refine thenQ_r ?_
    first
      | (have he : plcS s y = chkS s := by rw [plcS, if_neg h0]
         rw [he, if_neg h0]; exact retL (rlT rfl (rlT rfl rl0)) rfl rfl)
      | (have he : plcS s y = 2 := by rw [plcS, if_pos h0, if_neg (by simpa using hB)]
         rw [he, if_neg (by omega)]; exact retL (rlT rfl (rlT rfl rl0)) rfl rfl)
      | (have he : plcS s y = movS s := by rw [plcS, if_pos h0, if_pos (by simpa using hB)]
         rw [he]; exact retL (rlT rfl (rlT rfl rl0)) rfl (by split <;> rfl))
  · rw [Decidable.not_not] at h0
    refine W_seq rfl ?_
    refine W_reg rfl ?_
    refine Rv rfl rfl rfl (U_move rfl) rfl rfl ?_
    refine Ra rfl rfl rfl (U_buildSlice (by rfl) (by decide) rfl rfl) rfl rfl rfl ?_
    refine Rfr 1 rfl rfl (T' := [(15, .ros [i64 y] 1 (some 1)), (2, .ptr 0 0)]) (H' := [(0, some (.cells [i64 s.lo, i64 s.hi, entsA s.es c] 26))]) ⟨rfl, rfl, trivial⟩ ⟨rfl, trivial⟩ ?_
    refine Rv rfl rfl rfl (U_call rfl rfl (within_p 0 200 [y] (some 1) (by simp)) rfl) rfl rfl ?_
    refine Rv rfl rfl rfl (U_not rfl) rfl rfl ?_
    refine Rv rfl rfl rfl (U_assign rfl) rfl rfl ?_
    refine Re rfl ?_
    refine thenQ_n ?_
    refine Wcond rfl rfl (fun hB => ?_) (fun hB => ?_)
    · refine W_seq rfl ?_
      refine W_reg rfl ?_
      refine Rv rfl rfl rfl (U_assign rfl) rfl rfl ?_
      refine Rv rfl rfl rfl (U_assign rfl) rfl rfl ?_
      refine Re rfl ?_
      refine thenQ_n ?_
      refine W_ret rfl ?_
      refine blkQ_r ?_
      refine thenQ_r ?_
      first
        | (have he : plcS s y = chkS s := by rw [plcS, if_neg h0]
           rw [he, if_neg h0]; exact retL (rlT rfl (rlT rfl rl0)) rfl rfl)
        | (have he : plcS s y = 2 := by rw [plcS, if_pos h0, if_neg (by simpa using hB)]
           rw [he, if_neg (by omega)]; exact retL (rlT rfl (rlT rfl rl0)) rfl rfl)
        | (have he : plcS s y = movS s := by rw [plcS, if_pos h0, if_pos (by simpa using hB)]
           rw [he]; exact retL (rlT rfl (rlT rfl rl0)) rfl (by split <;> rfl))
    · refine W_skip rfl ?_
      refine blkQ_n ?_
      refine thenQ_n ?_
      refine W_seq rfl ?_
      refine W_reg rfl ?_
      refine Rv rfl rfl rfl (U_load3 rfl rfl rfl rfl rfl) rfl rfl ?_
      refine Rv rfl rfl rfl (U_call rfl rfl (moved_p s c hl) rfl) rfl rfl ?_
      refine Rv rfl rfl rfl (U_extract rfl rfl) rfl rfl ?_
      refine Rv rfl rfl rfl (U_extract rfl rfl) rfl rfl ?_
      refine Rv rfl rfl rfl (U_assign rfl) rfl rfl ?_
      refine Rv rfl rfl rfl (U_assign rfl) rfl rfl ?_
      refine Re rfl ?_
      refine thenQ_n ?_
      refine W_ret rfl ?_
      first
        | (have he : plcS s y = chkS s := by rw [plcS, if_neg h0]
           rw [he, if_neg h0]; exact retL (rlT rfl (rlT rfl rl0)) rfl rfl)
        | (have he : plcS s y = 2 := by rw [plcS, if_pos h0, if_neg (by simpa using hB)]
           rw [he, if_neg (by omega)]; exact retL (rlT rfl (rlT rfl rl0)) rfl rfl)
        | (have he : plcS s y = movS s := by rw [plcS, if_pos h0, if_pos (by simpa using hB)]
           rw [he]; exact retL (rlT rfl (rlT rfl rl0)) rfl (by split <;> rfl))
theorem idx_p (l : List Int) (x : Int) (c : Option Nat) (hl : l.length ≤ 1000000) : Pure Try.prog 112 [intsA l c, i64 x] (i64 (idxI (fun y => decide (x = y)) l)) := by
  refine pure_of_body Try.func112 (c := body Try.f112) rfl (by simp [Try.ntmps112]) fun w0 Φ0 => ?_
  refine W_seq rfl ?_
  refine W_reg rfl ?_
  refine Rv rfl rfl rfl (U_assign rfl) rfl rfl ?_
  refine Re rfl ?_
  refine thenQ_n ?_
  refine W_seq rfl ?_
  refine W_seq rfl ?_
  refine W_reg rfl ?_
  refine Rv rfl rfl rfl (U_move rfl) rfl rfl ?_
  first | refine Rv rfl rfl rfl (U_lenOf rfl len_ros) rfl rfl ?_ | refine Rv rfl rfl rfl (U_lenOf rfl len_slice) rfl rfl ?_ | refine Rv rfl rfl rfl (U_lenOf rfl len_sliceo) rfl rfl ?_ | refine Rv rfl rfl rfl (U_lenOf rfl len_nils) rfl rfl ?_
  refine Rv rfl rfl rfl (U_move rfl) rfl rfl ?_
  refine Re rfl ?_
  refine thenQ_n ?_
  refine Wless (T' := [(8, i64 ((0 : Nat) : Int)), (7, i64 (l.length : Nat)), (1, i64 x), (0, intsA l c)]) (H' := []) ⟨rfl, rfl, rfl, rfl, trivial⟩ trivial ?_
  refine W_block rfl ?_
  refine Wloop rfl (fun m s => ∃ k : Nat, k ≤ l.length ∧ m = l.length - k ∧ (∀ j (hj : j < l.length), j < k → (fun y => decide (x = y)) l[j] = false) ∧ s = ⟨[(8, i64 (k : Nat)), (7, i64 (l.length : Nat)), (1, i64 x), (0, intsA l c)], [], 0, []⟩) (n := l.length) ⟨0, Nat.zero_le _, rfl, by intro j _ h; omega, rfl⟩ ?_
  rintro _ _ ⟨k, hk, rfl, hb, rfl⟩
  refine W_seq rfl ?_
  refine W_reg rfl ?_
  refine Rv rfl rfl rfl (U_lss rfl rfl) rfl rfl ?_
  refine Re rfl ?_
  refine thenQ_n ?_
  refine W_seq rfl ?_
  refine WcondP rfl rfl (fun hc0 => ?_) (fun hc0 => ?_)
  · have hc : k < l.length := by omega
    refine W_skip rfl ?_
    refine thenQ_n ?_
    refine W_seq rfl ?_
    refine W_block rfl ?_
    refine W_seq rfl ?_
    refine W_reg rfl ?_
    refine Rv rfl rfl rfl (U_move rfl) rfl rfl ?_
    refine Rv rfl rfl rfl (U_assign rfl) rfl rfl ?_
    refine Re rfl ?_
    refine thenQ_n ?_
    refine W_seq rfl ?_
    refine W_reg rfl ?_
    refine Rv rfl rfl rfl (U_move rfl) rfl rfl ?_
    refine Rv rfl rfl rfl (U_move rfl) rfl rfl ?_
    refine Rv rfl rfl rfl (U_move rfl) rfl rfl ?_
    refine Rv rfl rfl rfl (U_indexR rfl rfl rfl hc) rfl rfl ?_
    refine Rv rfl rfl rfl (U_load1 rfl rfl (get1 hc)) rfl rfl ?_
    first | refine Rv rfl rfl rfl (U_eql rfl rfl) rfl rfl ?_ | refine Rv rfl rfl rfl (U_eqlA rfl rfl rfl rfl rfl rfl Iff.rfl) rfl rfl ?_ | refine Rv rfl rfl rfl (U_eqlB rfl rfl) rfl rfl ?_
    refine Re rfl ?_
    refine thenQ_n ?_
    refine WcondP rfl rfl (fun hp1 => ?_) (fun hp1 => ?_)
    · refine W_seq rfl ?_
      refine W_reg rfl ?_
      refine Rv rfl rfl rfl (U_move rfl) rfl rfl ?_
      refine Rv rfl rfl rfl (U_assign rfl) rfl rfl ?_
      refine Re rfl ?_
      refine thenQ_n ?_
      refine W_ret rfl ?_
      refine blkQ_r ?_
      refine thenQ_r ?_
      refine thenQ_r ?_
      refine blkQ_r ?_
      refine thenQ_r ?_
      first | exact ret1 rfl (by rw [idx_hit hc (fun j hj h => hb j hj h) (by simpa using hp1)]) rfl | exact ret1 rfl (by rw [idx_end (fun j hj => hb j hj (by omega))]) rfl
    · refine W_skip rfl ?_
      refine blkQ_n ?_
      refine thenQ_n ?_
      refine W_reg rfl ?_
      refine Rv rfl rfl rfl (U_add rfl rfl (w64e (m := ((k + 1 : Nat) : Int)) (by omega) (by omega) (by omega))) rfl rfl ?_
      refine Rv rfl rfl rfl (U_move rfl) rfl rfl ?_
      refine Re rfl ?_
      refine thenQ_n ?_
      exact again (l.length - (k + 1)) (by omega) (T' := [(8, i64 ((k + 1 : Nat) : Int)), (7, i64 (l.length : Nat)), (1, i64 x), (0, intsA l c)]) (H' := []) ⟨rfl, rfl, rfl, rfl, trivial⟩ trivial (⟨k + 1, hc, rfl, fun j hj h => by rcases Nat.lt_succ_iff_lt_or_eq.1 h with h | rfl; exact hb j hj h; simpa using hp1, rfl⟩)
  · refine W_exit rfl ?_
    refine thenQ_x ?_
    refine thenQ_x ?_
    refine blkQ_x rfl ?_
    refine thenQ_n ?_
    refine W_seq rfl ?_
    refine W_reg rfl ?_
    refine Rv rfl rfl rfl (U_assign rfl) rfl rfl ?_
    refine Re rfl ?_
    refine thenQ_n ?_
    refine W_ret rfl ?_
    first | exact ret1 rfl (by rw [idx_hit hc (fun j hj h => hb j hj h) (by simpa using hp1)]) rfl | exact ret1 rfl (by rw [idx_end (fun j hj => hb j hj (by omega))]) rfl
theorem contains_p (l : List Int) (x : Int) (c : Option Nat) (hl : l.length ≤ 1000000) : Pure Try.prog 93 [intsA l c, i64 x] (.bool (l.any fun y => decide (x = y))) := by
  refine pure_of_body Try.func93 (c := body Try.f93) rfl (by simp [Try.ntmps93]) fun w0 Φ0 => ?_
  refine W_seq rfl ?_
  refine W_reg rfl ?_
  refine Rv rfl rfl rfl (U_assign rfl) rfl rfl ?_
  refine Re rfl ?_
  refine thenQ_n ?_
  refine W_seq rfl ?_
  refine W_reg rfl ?_
  refine Rv rfl rfl rfl (U_move rfl) rfl rfl ?_
  refine Rv rfl rfl rfl (U_move rfl) rfl rfl ?_
  refine Rv rfl rfl rfl (U_call rfl rfl (idx_p l x c hl) rfl) rfl rfl ?_
  refine Rv rfl rfl rfl (U_geq rfl rfl) rfl rfl ?_
  refine Rv rfl rfl rfl (U_assign rfl) rfl rfl ?_
  refine Re rfl ?_
  refine thenQ_n ?_
  refine W_ret rfl ?_
  exact ret1 rfl (by rw [← idx_any]) rfl
theorem left_p (l : List Int) (c : Option Nat) (hl : l.length ≤ 1000000) (x : Int) : Pure Try.prog 95 [i64 x, .rop [intsA l c] 0] (.bool (l.any fun y => decide (x = y))) := by
  refine pure_of_body Try.func95 (c := body Try.f95) rfl (by simp [Try.ntmps95]) fun w0 Φ0 => ?_
  refine W_seq rfl ?_
  refine W_reg rfl ?_
  refine Rv rfl rfl rfl (U_assign rfl) rfl rfl ?_
  refine Re rfl ?_
  refine thenQ_n ?_
  refine W_seq rfl ?_
  refine W_reg rfl ?_
  refine Rv rfl rfl rfl (U_load1 rfl rfl rfl) rfl rfl ?_
  refine Rv rfl rfl rfl (U_move rfl) rfl rfl ?_
  refine Rv rfl rfl rfl (U_call rfl rfl (contains_p l x c hl) rfl) rfl rfl ?_
  refine Rv rfl rfl rfl (U_assign rfl) rfl rfl ?_
  refine Re rfl ?_
  refine thenQ_n ?_
  refine W_ret rfl ?_
  exact ret1 rfl rfl rfl
def cbS (s : Star) (p : Int × Int) : Int := if chkS s = 0 then (if isPairB s.es.length p = true then 0 else 2) else chkS s
theorem checkBound_p (s : Star) (c : Option Nat) (hl : s.es.length ≤ 1000000) (high : Bool) (a b : Int) : Pure Try.prog 23 [starA s c, .bool high, i64 a, i64 b] (.tup [ratA (if cbS s (a, b) = 0 then bnd s high (a, b) else (0, 0)), i64 (cbS s (a, b))]) := by
  refine pure_of_body Try.func23 (c := body Try.f23) rfl (by simp [Try.ntmps23]) fun w0 Φ0 => ?_
  refine W_seq rfl ?_
  refine W_reg rfl ?_
  refine Ra rfl rfl rfl (U_box rfl rfl) rfl rfl rfl ?_
  refine Ra rfl rfl rfl (U_alloc) rfl rfl rfl ?_
  refine Rv rfl rfl rfl (U_assign rfl) rfl rfl ?_
  refine Re rfl ?_
  refine thenQ_n ?_
  refine W_seq rfl ?_
  refine W_reg rfl ?_
  refine Rv rfl rfl rfl (U_load3 rfl rfl rfl rfl rfl) rfl rfl ?_
  refine Rv rfl rfl rfl (U_call rfl rfl (open_p s c hl) rfl) rfl rfl ?_
  refine Rv rfl rfl rfl (U_move rfl) rfl rfl ?_
  refine Rv rfl rfl rfl (U_extract rfl rfl) rfl rfl ?_
  refine Rv rfl rfl rfl (U_extract rfl rfl) rfl rfl ?_
  refine Rv rfl rfl rfl (U_assign rfl) rfl rfl ?_
  refine Rv rfl rfl rfl (U_assign rfl) rfl rfl ?_
  refine Re rfl ?_
  refine thenQ_n ?_
  refine W_seq rfl ?_
  refine W_block rfl ?_
  refine W_seq rfl ?_
  refine W_reg rfl ?_
  refine Rv rfl rfl rfl (U_move rfl) rfl rfl ?_
  first | refine Rv rfl rfl rfl (U_neq rfl rfl) rfl rfl ?_ | refine Rv rfl rfl rfl (U_neqA rfl rfl rfl rfl rfl rfl Iff.rfl) rfl rfl ?_ | refine Rv rfl rfl rfl (U_neqB rfl rfl) rfl rfl ?_
  refine Rv rfl rfl rfl (U_assign rfl) rfl rfl ?_
  refine Re rfl ?_
  refine thenQ_n ?_
  refine WcondP rfl rfl (fun h0 => ?_) (fun h0 => ?_)
  · refine W_seq rfl ?_
    refine W_reg rfl ?_
    refine Rv rfl rfl rfl (U_build rfl rfl) rfl rfl ?_
    refine Rv rfl rfl rfl (U_move rfl) rfl rfl ?_
    first | refine Rn rfl rfl rfl (U_storeAll rfl rfl rfl rfl rfl rfl) rfl ?_ | refine Rn rfl rfl rfl (U_store rfl rfl rfl rfl rfl (by decide) rfl rfl) rfl ?_
    refine Rv rfl rfl rfl (U_assign rfl) rfl rfl ?_
    refine Re rfl ?_
    refine thenQ_n ?_
    refine W_ret rfl ?_
    refine blkQ_r ?_
    refine thenQ_r ?_
    first
      | (have he : cbS s (a, b) = chkS s := by rw [cbS, if_neg h0]
         rw [he, if_neg h0]; exact retL (rlA rfl rfl rfl (rlT rfl rl0)) rfl rfl)
      | (have he : cbS s (a, b) = 2 := by rw [cbS, if_pos h0, if_neg (by simpa using hB)]
         rw [he, if_neg (by omega)]; exact retL (rlA rfl rfl rfl (rlT rfl rl0)) rfl rfl)
      | (have he : cbS s (a, b) = 0 := by rw [cbS, if_pos h0, if_pos (by simpa using hB)]
         rw [he, if_pos rfl]; exact retL (rlA rfl rfl rfl (rlT rfl rl0)) rfl rfl)
  · rw [Decidable.not_not] at h0
    rw [if_pos h0]
    refine W_seq rfl ?_
    refine W_reg rfl ?_
    refine Rv rfl rfl rfl (U_move rfl) rfl rfl ?_
    refine Rv rfl rfl rfl (U_move rfl) rfl rfl ?_
    refine Rv rfl rfl rfl (U_move rfl) rfl rfl ?_
    refine Rv rfl rfl rfl (U_call rfl rfl (isPair_p s c a b) rfl) rfl rfl ?_
    refine Rv rfl rfl rfl (U_not rfl) rfl rfl ?_
    refine Rv rfl rfl rfl (U_assign rfl) rfl rfl ?_
    refine Re rfl ?_
    refine thenQ_n ?_
    refine Wcond rfl rfl (fun hB => ?_) (fun hB => ?_)
    · refine W_seq rfl ?_
      refine W_reg rfl ?_
      refine Rv rfl rfl rfl (U_build rfl rfl) rfl rfl ?_
      first | refine Rn rfl rfl rfl (U_storeAll rfl rfl rfl rfl rfl rfl) rfl ?_ | refine Rn rfl rfl rfl (U_store rfl rfl rfl rfl rfl (by decide) rfl rfl) rfl ?_
      refine Rv rfl rfl rfl (U_assign rfl) rfl rfl ?_
      refine Re rfl ?_
      refine thenQ_n ?_
      refine W_ret rfl ?_
      refine blkQ_r ?_
      refine thenQ_r ?_
      first
        | (have he : cbS s (a, b) = chkS s := by rw [cbS, if_neg h0]
           rw [he, if_neg h0]; exact retL (rlA rfl rfl rfl (rlT rfl rl0)) rfl rfl)
        | (have he : cbS s (a, b) = 2 := by rw [cbS, if_pos h0, if_neg (by simpa using hB)]
           rw [he, if_neg (by omega)]; exact retL (rlA rfl rfl rfl (rlT rfl rl0)) rfl rfl)
        | (have he : cbS s (a, b) = 0 := by rw [cbS, if_pos h0, if_pos (by simpa using hB)]
           rw [he, if_pos rfl]; exact retL (rlA rfl rfl rfl (rlT rfl rl0)) rfl rfl)
    · refine W_skip rfl ?_
      refine blkQ_n ?_
      refine thenQ_n ?_
      refine W_seq rfl ?_
      refine W_reg rfl ?_
      refine Rv rfl rfl rfl (U_move rfl) rfl rfl ?_
      refine Rv rfl rfl rfl (U_move rfl) rfl rfl ?_
      refine Rv rfl rfl rfl (U_move rfl) rfl rfl ?_
      refine Rv rfl rfl rfl (U_move rfl) rfl rfl ?_
      refine Rv rfl rfl rfl (U_build rfl rfl) rfl rfl ?_
      refine Rv rfl rfl rfl (U_call rfl rfl (bnd_p s c (good_of h0) high (a, b) (by simpa using hB)) rfl) rfl rfl ?_
      first | refine Rn rfl rfl rfl (U_storeAll rfl rfl rfl rfl rfl rfl) rfl ?_ | refine Rn rfl rfl rfl (U_store rfl rfl rfl rfl rfl (by decide) rfl rfl) rfl ?_
      refine Rv rfl rfl rfl (U_assign rfl) rfl rfl ?_
      refine Re rfl ?_
      refine thenQ_n ?_
      refine W_ret rfl ?_
      first
        | (have he : cbS s (a, b) = chkS s := by rw [cbS, if_neg h0]
           rw [he, if_neg h0]; exact retL (rlA rfl rfl rfl (rlT rfl rl0)) rfl rfl)
        | (have he : cbS s (a, b) = 2 := by rw [cbS, if_pos h0, if_neg (by simpa using hB)]
           rw [he, if_neg (by omega)]; exact retL (rlA rfl rfl rfl (rlT rfl rl0)) rfl rfl)
        | (have he : cbS s (a, b) = 0 := by rw [cbS, if_pos h0, if_pos (by simpa using hB)]
           rw [he, if_pos rfl]; exact retL (rlA rfl rfl rfl (rlT rfl rl0)) rfl rfl)
theorem boundOf_p (s : Star) (c : Option Nat) (hl : s.es.length ≤ 1000000) (high : Bool) : Pure Try.prog 25 [starA s c, .bool high] (.tup [i64 (if movS s = 0 then (bestP s high).1 else 0), i64 (if movS s = 0 then (bestP s high).2 else 0), i64 (movS s)]) := by
  refine pure_of_body Try.func25 (c := body Try.f25) rfl (by simp [Try.ntmps25]) fun w0 Φ0 => ?_
  refine W_seq rfl ?_
  refine W_reg rfl ?_
  refine Ra rfl rfl rfl (U_box rfl rfl) rfl rfl rfl ?_
  refine Rv rfl rfl rfl (U_assign rfl) rfl rfl ?_
  refine Rv rfl rfl rfl (U_assign rfl) rfl rfl ?_
  refine Rv rfl rfl rfl (U_assign rfl) rfl rfl ?_
  refine Re rfl ?_
  refine thenQ_n ?_
  refine W_seq rfl ?_
  refine W_reg rfl ?_
  refine Rv rfl rfl rfl (U_load3 rfl rfl rfl rfl rfl) rfl rfl ?_
  refine Rv rfl rfl rfl (U_call rfl rfl (moved_p s c hl) rfl) rfl rfl ?_
  refine Rv rfl rfl rfl (U_move rfl) rfl rfl ?_
  refine Rv rfl rfl rfl (U_extract rfl rfl) rfl rfl ?_
  refine Rv rfl rfl rfl (U_extract rfl rfl) rfl rfl ?_
  refine Rv rfl rfl rfl (U_assign rfl) rfl rfl ?_
  refine Rv rfl rfl rfl (U_assign rfl) rfl rfl ?_
  refine Re rfl ?_
  refine thenQ_n ?_
  refine W_seq rfl ?_
  refine W_seq rfl ?_
  refine W_reg rfl ?_
  refine Rv rfl rfl rfl (U_move rfl) rfl rfl ?_
  first | refine Rv rfl rfl rfl (U_neq rfl rfl) rfl rfl ?_ | refine Rv rfl rfl rfl (U_neqA rfl rfl rfl rfl rfl rfl Iff.rfl) rfl rfl ?_ | refine Rv rfl rfl rfl (U_neqB rfl rfl) rfl rfl ?_
  refine Re rfl ?_
  refine thenQ_n ?_
  refine WcondP rfl rfl (fun h0 => ?_) (fun h0 => ?_)
  · refine W_seq rfl ?_
    refine W_reg rfl ?_
    refine Rv rfl rfl rfl (U_move rfl) rfl rfl ?_
    refine Rv rfl rfl rfl (U_assign rfl) rfl rfl ?_
    refine Rv rfl rfl rfl (U_assign rfl) rfl rfl ?_
    refine Rv rfl rfl rfl (U_assign rfl) rfl rfl ?_
    refine Re rfl ?_
    refine thenQ_n ?_
    refine W_ret rfl ?_
    refine thenQ_r ?_
    first
      | (rw [if_neg h0, if_neg h0]; exact retL (rlT rfl (rlT rfl (rlT rfl rl0))) rfl rfl)
      | (rw [h0]; exact retL (rlT rfl (rlT rfl (rlT rfl rl0))) rfl rfl)
  · rw [Decidable.not_not] at h0
    simp only [if_pos h0]
    refine W_skip rfl ?_
    refine thenQ_n ?_
    refine W_seq rfl ?_
    refine W_reg rfl ?_
    refine Rv rfl rfl rfl (U_move rfl) rfl rfl ?_
    refine Rv rfl rfl rfl (U_move rfl) rfl rfl ?_
    refine Rv rfl rfl rfl (U_call rfl rfl (best_p s c (good_of (mov_chk h0)) high) rfl) rfl rfl ?_
    refine Ra rfl rfl rfl (U_alloc) rfl rfl rfl ?_
    first | refine Rn rfl rfl rfl (U_storeAll rfl rfl rfl rfl rfl rfl) rfl ?_ | refine Rn rfl rfl rfl (U_store rfl rfl rfl rfl rfl (by decide) rfl rfl) rfl ?_
    refine Re rfl ?_
    refine thenQ_n ?_
    refine W_seq rfl ?_
    refine Wdraw rfl (by kernel_rfl) (by kernel_rfl) ?_
    first | refine Dv rfl rfl rfl (U_fieldAddr rfl) rfl rfl ?_ | refine Dv rfl rfl rfl (U_fieldAddrR rfl) rfl rfl ?_
    refine Dv rfl rfl rfl (U_load1 rfl rfl rfl) rfl rfl ?_
    first | refine Dv rfl rfl rfl (U_fieldAddr rfl) rfl rfl ?_ | refine Dv rfl rfl rfl (U_fieldAddrR rfl) rfl rfl ?_
    refine Dv rfl rfl rfl (U_load1 rfl rfl rfl) rfl rfl ?_
    refine Dv rfl rfl rfl (U_assign rfl) rfl rfl ?_
    refine Dv rfl rfl rfl (U_assign rfl) rfl rfl ?_
    refine Dv rfl rfl rfl (U_assign rfl) rfl rfl ?_
    refine Dr.nil rfl ?_
    refine thenQ_n ?_
    refine W_ret rfl ?_
    first
      | (rw [if_neg h0, if_neg h0]; exact retL (rlT rfl (rlT rfl (rlT rfl rl0))) rfl rfl)
      | (rw [h0]; exact retL (rlT rfl (rlT rfl (rlT rfl rl0))) rfl rfl)
theorem rate_p (s : Star) (c : Option Nat) (hl : s.es.length ≤ 1000000) : Pure Try.prog 32 [starA s c] (.tup [ratA (if movS s = 0 then endQ s false else (0, 0)), ratA (if movS s = 0 then endQ s true else (0, 0)), i64 (movS s)]) := by
  refine pure_of_body Try.func32 (c := body Try.f32) rfl (by simp [Try.ntmps32]) fun w0 Φ0 => ?_
  refine W_seq rfl ?_
  refine W_reg rfl ?_
  refine Ra rfl rfl rfl (U_box rfl rfl) rfl rfl rfl ?_
  refine Ra rfl rfl rfl (U_alloc) rfl rfl rfl ?_
  refine Ra rfl rfl rfl (U_alloc) rfl rfl rfl ?_
  refine Rv rfl rfl rfl (U_assign rfl) rfl rfl ?_
  refine Re rfl ?_
  refine thenQ_n ?_
  refine W_seq rfl ?_
  refine W_reg rfl ?_
  refine Rv rfl rfl rfl (U_load3 rfl rfl rfl rfl rfl) rfl rfl ?_
  refine Rv rfl rfl rfl (U_call rfl rfl (moved_p s c hl) rfl) rfl rfl ?_
  refine Rv rfl rfl rfl (U_move rfl) rfl rfl ?_
  refine Rv rfl rfl rfl (U_extract rfl rfl) rfl rfl ?_
  refine Rv rfl rfl rfl (U_extract rfl rfl) rfl rfl ?_
  refine Rv rfl rfl rfl (U_assign rfl) rfl rfl ?_
  refine Rv rfl rfl rfl (U_assign rfl) rfl rfl ?_
  refine Re rfl ?_
  refine thenQ_n ?_
  refine W_seq rfl ?_
  refine W_seq rfl ?_
  refine W_reg rfl ?_
  refine Rv rfl rfl rfl (U_move rfl) rfl rfl ?_
  first | refine Rv rfl rfl rfl (U_neq rfl rfl) rfl rfl ?_ | refine Rv rfl rfl rfl (U_neqA rfl rfl rfl rfl rfl rfl Iff.rfl) rfl rfl ?_ | refine Rv rfl rfl rfl (U_neqB rfl rfl) rfl rfl ?_
  refine Re rfl ?_
  refine thenQ_n ?_
  refine WcondP rfl rfl (fun h0 => ?_) (fun h0 => ?_)
  · refine W_seq rfl ?_
    refine W_reg rfl ?_
    refine Rv rfl rfl rfl (U_build rfl rfl) rfl rfl ?_
    refine Rv rfl rfl rfl (U_build rfl rfl) rfl rfl ?_
    refine Rv rfl rfl rfl (U_move rfl) rfl rfl ?_
    first | refine Rn rfl rfl rfl (U_storeAll rfl rfl rfl rfl rfl rfl) rfl ?_ | refine Rn rfl rfl rfl (U_store rfl rfl rfl rfl rfl (by decide) rfl rfl) rfl ?_
    first | refine Rn rfl rfl rfl (U_storeAll rfl rfl rfl rfl rfl rfl) rfl ?_ | refine Rn rfl rfl rfl (U_store rfl rfl rfl rfl rfl (by decide) rfl rfl) rfl ?_
    refine Rv rfl rfl rfl (U_assign rfl) rfl rfl ?_
    refine Re rfl ?_
    refine thenQ_n ?_
    refine W_ret rfl ?_
    refine thenQ_r ?_
    first
      | (rw [if_neg h0, if_neg h0]; exact retL (rlA rfl rfl rfl (rlA rfl rfl rfl (rlT rfl rl0))) rfl rfl)
      | (rw [h0]; exact retL (rlA rfl rfl rfl (rlA rfl rfl rfl (rlT rfl rl0))) rfl rfl)
  · rw [Decidable.not_not] at h0
    simp only [if_pos h0]
    refine W_skip rfl ?_
    refine thenQ_n ?_
    refine W_seq rfl ?_
    refine W_reg rfl ?_
    refine Rv rfl rfl rfl (U_move rfl) rfl rfl ?_
    refine Rv rfl rfl rfl (U_call rfl rfl (end_p s c (good_of (mov_chk h0)) false) rfl) rfl rfl ?_
    refine Rv rfl rfl rfl (U_move rfl) rfl rfl ?_
    refine Rv rfl rfl rfl (U_call rfl rfl (end_p s c (good_of (mov_chk h0)) true) rfl) rfl rfl ?_
    first | refine Rn rfl rfl rfl (U_storeAll rfl rfl rfl rfl rfl rfl) rfl ?_ | refine Rn rfl rfl rfl (U_store rfl rfl rfl rfl rfl (by decide) rfl rfl) rfl ?_
    first | refine Rn rfl rfl rfl (U_storeAll rfl rfl rfl rfl rfl rfl) rfl ?_ | refine Rn rfl rfl rfl (U_store rfl rfl rfl rfl rfl (by decide) rfl rfl) rfl ?_
    refine Rv rfl rfl rfl (U_assign rfl) rfl rfl ?_
    refine Re rfl ?_
    refine thenQ_n ?_
    refine W_ret rfl ?_
    first
      | (rw [if_neg h0, if_neg h0]; exact retL (rlA rfl rfl rfl (rlA rfl rfl rfl (rlT rfl rl0))) rfl rfl)
      | (rw [h0]; exact retL (rlA rfl rfl rfl (rlA rfl rfl rfl (rlT rfl rl0))) rfl rfl)
end Go.Proofs.Ytapappdgdiaijaa
end
