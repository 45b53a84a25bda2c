import Derived.Test.YtapappdgdiaijaaM3
import Derived.Test.YtapappdgdiaijaaM8
import Derived.Test.YtapappdgdiaijaaM6
section
/- Abstract states, part 28: bits of numbers that are not below 0. -/
namespace Go.AE
open Go.RowKit
theorem wrapN {n : Nat} (h : n < 9223372036854775808) : IntKind.i64.wrap (n : Int) = (n : Int) := wr_i64 (by omega) (by omega)
theorem shrN {n i : Nat} (h : n < 9223372036854775808) : ((n : Nat) : Int).fdiv (2 ^ min ((i : Nat) : Int).toNat IntKind.i64.bits) = ((n >>> i : Nat) : Int) := by
  have hb : IntKind.i64.bits = 64 := rfl
  rw [hb, Int.toNat_natCast, Int.fdiv_eq_ediv_of_nonneg _ (by exact_mod_cast Nat.zero_le (2 ^ min i 64)), Nat.shiftRight_eq_div_pow]
  by_cases hi : i ≤ 64
  · rw [Nat.min_eq_left hi]; norm_cast
  · rw [Nat.min_eq_right (by omega)]
    have h1 : n / 2 ^ i = 0 := Nat.div_eq_of_lt (Nat.lt_of_lt_of_le h (Nat.le_trans (by decide) (Nat.pow_le_pow_right (show 0 < 2 by omega) (show 63 ≤ i by omega))))
    rw [h1]
    omega
theorem ofIntN {n : Nat} : BitVec.ofInt IntKind.i64.bits ((n : Nat) : Int) = BitVec.ofNat 64 n := by
  show BitVec.ofInt 64 (n : Int) = _
  simp
theorem andN {a b : Nat} (ha : a < 9223372036854775808) (hb : b < 9223372036854775808) : IntKind.i64.wrap (BitVec.ofInt IntKind.i64.bits ((a : Nat) : Int) &&& BitVec.ofInt IntKind.i64.bits ((b : Nat) : Int)).toNat = ((a &&& b : Nat) : Int) := by
  have e : (BitVec.ofInt IntKind.i64.bits ((a : Nat) : Int) &&& BitVec.ofInt IntKind.i64.bits ((b : Nat) : Int)).toNat = a &&& b := by
    rw [ofIntN, ofIntN]
    show (BitVec.ofNat 64 a &&& BitVec.ofNat 64 b).toNat = _
    rw [BitVec.toNat_and, BitVec.toNat_ofNat, BitVec.toNat_ofNat, Nat.mod_eq_of_lt (by omega), Nat.mod_eq_of_lt (by omega)]
  rw [e]
  exact wrapN (Nat.lt_of_le_of_lt Nat.and_le_left ha)
theorem orN {a b : Nat} (ha : a < 9223372036854775808) (hb : b < 9223372036854775808) : IntKind.i64.wrap (BitVec.ofInt IntKind.i64.bits ((a : Nat) : Int) ||| BitVec.ofInt IntKind.i64.bits ((b : Nat) : Int)).toNat = ((a ||| b : Nat) : Int) := by
  have e : (BitVec.ofInt IntKind.i64.bits ((a : Nat) : Int) ||| BitVec.ofInt IntKind.i64.bits ((b : Nat) : Int)).toNat = a ||| b := by
    rw [ofIntN, ofIntN]
    show (BitVec.ofNat 64 a ||| BitVec.ofNat 64 b).toNat = _
    rw [BitVec.toNat_or, BitVec.toNat_ofNat, BitVec.toNat_ofNat, Nat.mod_eq_of_lt (by omega), Nat.mod_eq_of_lt (by omega)]
  rw [e]
  exact wrapN (Nat.or_lt_two_pow (n := 63) ha hb)
theorem shlN {n i : Nat} (h : n * 2 ^ i < 9223372036854775808) (hi : i < 64) : IntKind.i64.wrap (((n : Nat) : Int) * 2 ^ min ((i : Nat) : Int).toNat IntKind.i64.bits) = ((n <<< i : Nat) : Int) := by
  have hb : IntKind.i64.bits = 64 := rfl
  rw [hb, Int.toNat_natCast, Nat.min_eq_left (by omega), Nat.shiftLeft_eq]
  have : ((n : Nat) : Int) * 2 ^ i = ((n * 2 ^ i : Nat) : Int) := by norm_cast
  rw [this]
  exact wrapN h
theorem shr_lt {n i B : Nat} (h : n < B) : n >>> i < B := Nat.lt_of_le_of_lt (Nat.shiftRight_le n i) h
theorem shrN16 {n i : Nat} (h : n < 65536) : ((n : Nat) : Int).fdiv (2 ^ min ((i : Nat) : Int).toNat IntKind.u16.bits) = ((n >>> i : Nat) : Int) := by
  have hb : IntKind.u16.bits = 16 := rfl
  rw [hb, Int.toNat_natCast, Int.fdiv_eq_ediv_of_nonneg _ (by exact_mod_cast Nat.zero_le (2 ^ min i 16)), Nat.shiftRight_eq_div_pow]
  by_cases hi : i ≤ 16
  · rw [Nat.min_eq_left hi]; norm_cast
  · rw [Nat.min_eq_right (by omega)]
    have h1 : n / 2 ^ i = 0 := Nat.div_eq_of_lt (Nat.lt_of_lt_of_le h (Nat.le_trans (by decide) (Nat.pow_le_pow_right (show 0 < 2 by omega) (show 16 ≤ i by omega))))
    rw [h1]
    omega
theorem andN16 {a b : Nat} (ha : a < 65536) (hb : b < 65536) : IntKind.u16.wrap (BitVec.ofInt IntKind.u16.bits ((a : Nat) : Int) &&& BitVec.ofInt IntKind.u16.bits ((b : Nat) : Int)).toNat = ((a &&& b : Nat) : Int) := by
  have e : (BitVec.ofInt IntKind.u16.bits ((a : Nat) : Int) &&& BitVec.ofInt IntKind.u16.bits ((b : Nat) : Int)).toNat = a &&& b := by
    show (BitVec.ofInt 16 (a : Int) &&& BitVec.ofInt 16 (b : Int)).toNat = _
    rw [BitVec.toNat_and]
    have : ∀ n : Nat, n < 65536 → (BitVec.ofInt 16 (n : Int)).toNat = n := fun n hn => by
      rw [BitVec.toNat_ofInt]; omega
    rw [this a ha, this b hb]
  rw [e]
  have h1 : a &&& b ≤ a := Nat.and_le_left
  exact wr_u16 (by omega) (by omega)
section
variable {C : Ctx} {T : AT} {H : AH} {nx : Nat} {d : Option Tmp} {ty : TypeId} {pos : String} {after : Array Edge} {g : Option (Nat × Bool)}
theorem U_eqlS {t t' : TypeId} {x y : Operand} {k : IntKind} {a : Int} (hx : ev T x = some (.int k a)) (hy : ev T y = some (.int k a)) : OpU C ⟨d, .binOp .eql t x y t', ty, pos, after, g⟩ T H nx (.bool true) [] nx := by
  have h := U_eql (C := C) (t := t) (t' := t') (d := d) (ty := ty) (pos := pos) (after := after) (g := g) (H := H) (nx := nx) hx hy
  rwa [decide_eq_true rfl] at h
theorem U_neqS {t t' : TypeId} {x y : Operand} {k : IntKind} {a : Int} (hx : ev T x = some (.int k a)) (hy : ev T y = some (.int k a)) : OpU C ⟨d, .binOp .neq t x y t', ty, pos, after, g⟩ T H nx (.bool false) [] nx := by
  have h := U_neq (C := C) (t := t) (t' := t') (d := d) (ty := ty) (pos := pos) (after := after) (g := g) (H := H) (nx := nx) hx hy
  rwa [decide_eq_false (fun k => k rfl)] at h
theorem U_eqlAS {t t' : TypeId} {x y : Operand} {cs : List AV} {ks : List IntKind} {ns : List Int} [hT : TyEq C.P t ks] (hx : ev T x = some (.agg cs)) (hy : ev T y = some (.agg cs)) (h1 : numsOf cs = some ns) (k1 : kindsA cs = ks) :
    OpU C ⟨d, .binOp .eql t x y t', ty, pos, after, g⟩ T H nx (.bool true) [] nx := by
  have h := U_eqlA (C := C) (t := t) (t' := t') (d := d) (ty := ty) (pos := pos) (after := after) (g := g) (H := H) (nx := nx) (p := True) hx hy h1 h1 k1 k1 (by simp)
  rwa [decide_eq_true trivial] at h
theorem U_neqAS {t t' : TypeId} {x y : Operand} {cs : List AV} {ks : List IntKind} {ns : List Int} [hT : TyEq C.P t ks] (hx : ev T x = some (.agg cs)) (hy : ev T y = some (.agg cs)) (h1 : numsOf cs = some ns) (k1 : kindsA cs = ks) :
    OpU C ⟨d, .binOp .neq t x y t', ty, pos, after, g⟩ T H nx (.bool false) [] nx := by
  have h := U_neqA (C := C) (t := t) (t' := t') (d := d) (ty := ty) (pos := pos) (after := after) (g := g) (H := H) (nx := nx) (p := True) hx hy h1 h1 k1 k1 (by simp)
  rwa [decide_eq_false (fun k => k trivial)] at h
/-- append of nothing. -/
theorem U_app0G {sT xT e e' z z' n : Nat} {x y : Operand} {s v : AV} [hT : TySl C.P sT e z] [hX : TySl C.P xT e' z'] (hx : ev T x = some s) (hy : ev T y = some v) (hs : ∀ ρ Φ w a, Con ρ Φ w s a → ∃ ad k, a = .slice ad n k ∧ n ≤ k) (hv : ∀ ρ Φ w a, Con ρ Φ w v a → ∃ ad k, a = .slice ad 0 k) :
    OpU C ⟨d, .call ⟨.builtin .append, #[x, y], #[sT, xT]⟩, ty, pos, after, g⟩ T H nx s [] nx :=
  OpU.of_value (by intro c; simp) fun ρ Φ a w h3 h4 => by
    obtain ⟨ad, k, e1, hnk⟩ := hs ρ Φ w _ (ev_con h3 hx)
    obtain ⟨ad', k', e4⟩ := hv ρ Φ w _ (ev_con h3 hy)
    refine ⟨a.eval x, ?_, ev_con h3 hx⟩
    have e5' : (Builtin.firstCells z 0 (.slice ad' 0 k')).run C.P w = .ok #[] w := by cases ad' <;> simp [Builtin.firstCells, loadCells, loadCellsFrom]
    have : (Builtin.append_ #[sT, xT] ty #[a.eval x, a.eval y]).run C.P w = .ok (a.eval x) w := by
      rw [e1, e4]
      unfold Builtin.append_
      cases ad with
      | none => simp only [List.getElem?_toArray, List.getElem?_cons_zero, List.getElem?_cons_succ, Sem.run_bind, run_underlying hT.un, run_underlying hX.un, Result.andThen_ok, Sem.run_pure, hT.size, Bool.false_eq_true, if_false, Builtin.lenOf, Nat.add_zero, hnk, if_true, Bool.not_false, e5']
      | some ad => simp only [List.getElem?_toArray, List.getElem?_cons_zero, List.getElem?_cons_succ, Sem.run_bind, run_underlying hT.un, run_underlying hX.un, Result.andThen_ok, Sem.run_pure, hT.size, Bool.false_eq_true, if_false, Builtin.lenOf, Nat.add_zero, hnk, if_true, Bool.not_false, e5', storeCells]
    simp only [execOp, resolve, Sem.run_bind, Sem.run_pure, Result.andThen_ok, invoke, builtin]
    simp [this]
theorem lenk_ros {cs : List AV} {n : Nat} {c : Option Nat} : ∀ (ρ : Env) Φ w y, Con ρ Φ w (.ros cs n c) y → ∃ a k, y = .slice a n k ∧ n ≤ k := fun _ _ _ _ h => by
  simp only [Con] at h; rcases h with ⟨rfl, ⟨_, h⟩, _⟩ | ⟨_, _, _, _, _, h, h2, _⟩
  · exact ⟨_, _, h, Nat.le_refl _⟩
  · exact ⟨_, _, h, h2⟩
theorem lenk_out {b n z : Nat} : ∀ (ρ : Env) Φ w y, Con ρ Φ w (.out b n z) y → ∃ a k, y = .slice a n k ∧ n ≤ k := fun _ _ _ _ h => by
  simp only [Con] at h; rcases h with ⟨rfl, h⟩ | ⟨_, _, _, _, h2, _, h⟩
  · exact ⟨_, _, h, Nat.le_refl _⟩
  · exact ⟨_, _, h, h2⟩
theorem len0_ros {cs : List AV} {n : Nat} {c : Option Nat} (hn : n = 0) : ∀ (ρ : Env) Φ w y, Con ρ Φ w (.ros cs n c) y → ∃ a k, y = .slice a 0 k := fun ρ Φ w y h => by
  obtain ⟨a, k, h1, _⟩ := lenk_ros ρ Φ w y h; subst hn; exact ⟨a, k, h1⟩
theorem U_sliceRL {t e z n l h : Nat} {c : Option Nat} {x : Operand} {lo hi : Option Operand} {cs cs' : List AV} [hT : TySl C.P t e z] (hx : ev T x = some (.ros cs n c)) (hlo : BndIs T lo 0 l) (hhi : BndIs T hi n h) (h1 : l < h) (h2 : h ≤ n) (hc : cs.drop (l * z) = cs') :
    OpU C ⟨d, .slice t x lo hi none, ty, pos, after, g⟩ T H nx (.ros cs' (h - l) (c.map (· - l))) [] nx := by
  subst hc; exact U_sliceR hx hlo hhi h1 h2
theorem dropM {α : Type} {g : α → AV} (l : List α) (k : Nat) : (l.map g).drop (k * 1) = (l.drop k).map g := by simp [List.map_drop]
theorem srcX {z : Nat} {H : AH} {cs : List AV} {n m : Nat} {c : Option Nat} (h : cs.length = n * z) (e : n = m) : srcS z H (.ros cs n c) = some (cs, m) := by
  subst e; exact srcR h
end
end Go.AE
end

section
/- Contracts of the reference, third part: places. -/
namespace Go.Proofs.Ytapappdgdiaijaa
set_option maxRecDepth 20000
open Go.AE
theorem rateR_p (s : Star) (c : Option Nat) (hl : s.es.length ≤ 1000) : Pure Try.prog 33 [starA s c] (.tup [ratA (if movS s = 0 then endQ s false else (0, 0)), ratA (if movS s = 0 then endQ s true else (0, 0)), i64 (movS s)]) := by
  refine pure_of_body Try.func33 (c := body Try.f33) rfl (by simp [Try.ntmps33]) fun w0 Φ0 => ?_
  refine W_seq rfl ?_
  refine W_reg rfl ?_
  refine Rv rfl rfl rfl (U_boxF rfl rfl rfl) rfl rfl ?_
  refine Ra rfl rfl rfl (U_alloc) rfl rfl rfl ?_
  refine Ra rfl rfl rfl (U_alloc) rfl rfl rfl ?_
  refine Rv rfl rfl rfl (U_assign rfl) rfl rfl ?_
  refine Re rfl ?_
  refine thenQ_n ?_
  refine W_seq rfl ?_
  refine W_seq rfl ?_
  refine W_reg rfl ?_
  refine Rv rfl rfl rfl (U_load3 rfl rfl rfl rfl rfl) rfl rfl ?_
  refine Rv rfl rfl rfl (U_call rfl rfl (starErrorR_p s c (by omega)) rfl) rfl rfl ?_
  refine Rv rfl rfl rfl (U_neq rfl rfl) rfl rfl ?_
  refine Re rfl ?_
  refine thenQ_n ?_
  refine WcondP rfl rfl (fun hc0 => ?_) (fun hc0 => ?_)
  · refine W_seq rfl ?_
    refine W_reg rfl ?_
    refine Rv rfl rfl rfl (U_build rfl rfl) rfl rfl ?_
    refine Rv rfl rfl rfl (U_build rfl rfl) rfl rfl ?_
    refine Rv rfl rfl rfl (U_load3 rfl rfl rfl rfl rfl) rfl rfl ?_
    refine Rv rfl rfl rfl (U_call rfl rfl (starErrorR_p s c (by omega)) rfl) rfl rfl ?_
    refine Rn rfl rfl rfl (U_storeAll rfl rfl rfl rfl rfl rfl) rfl ?_
    refine Rn rfl rfl rfl (U_storeAll rfl rfl rfl rfl rfl rfl) rfl ?_
    refine Rv rfl rfl rfl (U_assign rfl) rfl rfl ?_
    refine Re rfl ?_
    refine thenQ_n ?_
    refine W_ret rfl ?_
    refine thenQ_r ?_
    exact retL (rlA rfl rfl rfl (rlA rfl rfl rfl (rlT rfl rl0))) (by first | rfl | (simp only [packA]; simp only [if_neg hc0]; first | done | rfl) | (simp only [packA]; simp only [hm0, if_true]; first | done | rfl)) rfl
  · rw [Decidable.not_not] at hc0
    have hm0 : movS s = 0 := by omega
    have hg := good_of (mov_chk hm0)
    refine W_skip rfl ?_
    refine thenQ_n ?_
    refine W_seq rfl ?_
    refine W_reg rfl ?_
    refine Rv rfl rfl rfl (U_load3 rfl rfl rfl rfl rfl) rfl rfl ?_
    refine Rv rfl rfl rfl (U_call rfl rfl (rateOf_p s c hg) rfl) rfl rfl ?_
    refine Rv rfl rfl rfl (U_move rfl) rfl rfl ?_
    refine Rv rfl rfl rfl (U_extract rfl rfl) rfl rfl ?_
    refine Rv rfl rfl rfl (U_extract rfl rfl) rfl rfl ?_
    refine Ra rfl rfl rfl (U_alloc) rfl rfl rfl ?_
    refine Ra rfl rfl rfl (U_alloc) rfl rfl rfl ?_
    refine Rn rfl rfl rfl (U_storeAll rfl rfl rfl rfl rfl rfl) rfl ?_
    refine Rn rfl rfl rfl (U_storeAll rfl rfl rfl rfl rfl rfl) rfl ?_
    refine Re rfl ?_
    refine thenQ_n ?_
    refine WfrN 2 rfl rfl (T' := [(2, .ptr 0 0), (3, .ptr 1 0), (5, .rop [i64 ((endQ s false).1), i64 ((endQ s false).2)] 0), (6, .ptr 3 0)]) (H' := [(0, some (.cells [i64 0, i64 0] 28)), (1, some (.cells [i64 0, i64 0] 28)), (3, some (.cells [i64 ((endQ s true).1), i64 ((endQ s true).2)] 28))]) ⟨⟨_, rfl, rfl⟩, ⟨_, rfl, rfl⟩, ⟨_, rfl, rfl⟩, ⟨_, rfl, rfl⟩, trivial⟩ ⟨⟨rfl, rF rfl rfl⟩, ⟨rfl, rF rfl rfl⟩, ⟨rfl, rF rfl rfl⟩, trivial⟩ ?_
    refine WfrN 3 rfl rfl (T' := [(2, .ptr 0 0), (3, .ptr 1 0), (5, .rop [i64 ((endQ s false).1), i64 ((endQ s false).2)] 0), (6, .rop [i64 ((endQ s true).1), i64 ((endQ s true).2)] 0)]) (H' := [(0, some (.cells [i64 0, i64 0] 28)), (1, some (.cells [i64 0, i64 0] 28))]) ⟨⟨_, rfl, rfl⟩, ⟨_, rfl, rfl⟩, ⟨_, rfl, rfl⟩, ⟨_, rfl, rfl⟩, trivial⟩ ⟨⟨rfl, rF rfl rfl⟩, ⟨rfl, rF rfl rfl⟩, trivial⟩ ?_
    refine W_seq rfl ?_
    refine WdrawL [19, 20] rfl (by kernel_rfl) (by kernel_rfl) ?_
    refine Dv rfl rfl rfl (U_load2 rfl rfl rfl rfl) rfl rfl ?_
    refine Dv rfl rfl rfl (U_load2 rfl rfl rfl rfl) rfl rfl ?_
    refine Dn_ rfl rfl rfl (U_storeAll rfl rfl rfl rfl rfl rfl) rfl rfl ?_
    refine Dn_ rfl rfl rfl (U_storeAll rfl rfl rfl rfl rfl rfl) rfl rfl ?_
    refine Dv rfl rfl rfl (U_assign rfl) rfl rfl ?_
    refine Dr.nil rfl ?_
    refine thenQ_n ?_
    refine W_ret rfl ?_
    exact retL (rlA rfl rfl rfl (rlA rfl rfl rfl (rlT rfl rl0))) (by first | rfl | (simp only [packA]; simp only [if_neg hc0]; first | done | rfl) | (simp only [packA]; simp only [hm0, if_true]; first | done | rfl)) rfl
theorem carriedR_p (n : Int) (v : Int × Int) (y : Int) (hn : -1000000000 ≤ n ∧ n ≤ 1000000000) (hv : Bd 1000000000 40000 v) (hy : -1000 ≤ y ∧ y ≤ 1000) : Pure Try.prog 115 [i64 n, ratA v, i64 y] (ratA (frac (n * v.2 + v.1 * y) v.2)) := by
  obtain ⟨v1, v2, v3, v4⟩ := hv
  have q1 := mulB hn.1 hn.2 (show -40000 ≤ v.2 by omega) v4
  have q2 := mulB v1 v2 hy.1 hy.2
  refine pure_of_body Try.func115 (c := body Try.f115) rfl (by simp [Try.ntmps115]) fun w0 Φ0 => ?_
  refine W_seq rfl ?_
  refine W_reg rfl ?_
  refine Rv rfl rfl rfl (U_boxF rfl rfl rfl) rfl rfl ?_
  refine Ra rfl rfl rfl (U_alloc) rfl rfl rfl ?_
  refine Re rfl ?_
  refine thenQ_n ?_
  refine W_seq rfl ?_
  refine W_reg rfl ?_
  refine Rv rfl rfl rfl (U_move rfl) rfl rfl ?_
  refine Rv rfl rfl rfl (U_fieldAddrR rfl) rfl rfl ?_
  refine Rv rfl rfl rfl (U_load1 rfl rfl rfl) rfl rfl ?_
  refine Rv rfl rfl rfl (U_mul rfl rfl (w64 (by omega) (by omega))) rfl rfl ?_
  refine Rv rfl rfl rfl (U_fieldAddrR rfl) rfl rfl ?_
  refine Rv rfl rfl rfl (U_load1 rfl rfl rfl) rfl rfl ?_
  refine Rv rfl rfl rfl (U_move rfl) rfl rfl ?_
  refine Rv rfl rfl rfl (U_mul rfl rfl (w64 (by omega) (by omega))) rfl rfl ?_
  refine Rv rfl rfl rfl (U_add rfl rfl (w64 (by omega) (by omega))) rfl rfl ?_
  refine Rv rfl rfl rfl (U_fieldAddrR rfl) rfl rfl ?_
  refine Rv rfl rfl rfl (U_load1 rfl rfl rfl) rfl rfl ?_
  refine Rv rfl rfl rfl (U_call rfl rfl (fracR_p ((n * v.2) + (v.1 * y)) v.2 (by omega) (by omega)) rfl) rfl rfl ?_
  refine Rn rfl rfl rfl (U_storeAll rfl rfl rfl rfl rfl rfl) rfl ?_
  refine Re rfl ?_
  refine thenQ_n ?_
  refine W_ret rfl ?_
  exact retL (rlA rfl rfl rfl rl0) rfl rfl
theorem turnedR_p (s : Star) (c : Option Nat) (hg : Good s) : Pure Try.prog 52 [starA s c] (starA (turnS s) none) := by
  have hlen := hg.len
  have hlo := hg.lo
  have hhi := hg.hi
  refine pure_of_body Try.func52 (c := body Try.f52) rfl (by simp [Try.ntmps52]) fun w0 Φ0 => ?_
  refine W_seq rfl ?_
  refine W_reg rfl ?_
  refine Rv rfl rfl rfl (U_boxF rfl rfl rfl) rfl rfl ?_
  refine Ra rfl rfl rfl (U_alloc) rfl rfl rfl ?_
  refine Re rfl ?_
  refine thenQ_n ?_
  refine W_seq rfl ?_
  refine W_reg rfl ?_
  refine Rv rfl rfl rfl (U_fieldAddrR rfl) rfl rfl ?_
  refine Rv rfl rfl rfl (U_fieldAddrR rfl) rfl rfl ?_
  refine Rv rfl rfl rfl (U_load1 rfl rfl rfl) rfl rfl ?_
  refine Rv rfl rfl rfl (U_neg rfl (w64 (by omega) (by omega))) rfl rfl ?_
  refine Rv rfl rfl rfl (U_fieldAddrR rfl) rfl rfl ?_
  refine Rv rfl rfl rfl (U_fieldAddrR rfl) rfl rfl ?_
  refine Rv rfl rfl rfl (U_load1 rfl rfl rfl) rfl rfl ?_
  refine Rv rfl rfl rfl (U_neg rfl (w64 (by omega) (by omega))) rfl rfl ?_
  refine Rv rfl rfl rfl (U_build rfl rfl) rfl rfl ?_
  refine Rv rfl rfl rfl (U_build rfl rfl) rfl rfl ?_
  refine Ra rfl rfl rfl (U_alloc) rfl rfl rfl ?_
  refine Rn rfl rfl rfl (U_storeAll rfl rfl rfl rfl rfl rfl) rfl ?_
  refine Re rfl ?_
  refine thenQ_n ?_
  refine W_seq rfl ?_
  refine W_seq rfl ?_
  refine W_reg rfl ?_
  refine Rv rfl rfl rfl (U_assign rfl) rfl rfl ?_
  refine Re rfl ?_
  refine thenQ_n ?_
  refine W_block rfl ?_
  refine WweakH (b := 1) (cs' := [i64 (-s.hi), i64 (-s.lo), .out 2 0 3]) rfl (leL_cons (le_refl _) (leL_cons (le_refl _) (leL_cons le_nils_out (leL_refl _)))) ?_
  refine LoopTo (T' := [(1, .rop [i64 s.lo, i64 s.hi, .ros (s.es.flatMap entC) s.es.length c] 0), (2, .ptr 0 0), (3, .ptr 1 0), (4, i64 ((0 : Nat) : Int))]) (H' := [(0, some (.cells [i64 0, i64 0, .nils] 26)), (1, some (.cells [i64 (-s.hi), i64 (-s.lo), .out 2 [].length 3] 26)), (2, outB ([].flatMap entC) 76 [].length)]) (n := 3) rfl (fun mz_ qz_ => ∃ (k : Nat) (l : List Ent), k ≤ s.es.length ∧ l = (s.es.take k).map turnE ∧ mz_ = s.es.length - k ∧ qz_ = ⟨[(1, .rop [i64 s.lo, i64 s.hi, .ros (s.es.flatMap entC) s.es.length c] 0), (2, .ptr 0 0), (3, .ptr 1 0), (4, i64 ((k : Nat) : Int))], [(0, some (.cells [i64 0, i64 0, .nils] 26)), (1, some (.cells [i64 (-s.hi), i64 (-s.lo), .out 2 l.length 3] 26)), (2, outB (l.flatMap entC) 76 l.length)], 3, []⟩) ⟨0, [], (by omega), rfl, rfl, rfl⟩ id ⟨eD rfl rfl, e_ rfl rfl, e_ rfl rfl, eD rfl rfl, trivial⟩ ⟨rD rfl rfl rfl, r_ rfl rfl rfl, rO0 rfl, trivial⟩ rfl rfl rfl rfl (fun _ _ => rfl) ?_
  rintro _ _ ⟨k, l, hi0_0, hi0_1, rfl, rfl⟩
  refine W_seq rfl ?_
  refine W_seq rfl ?_
  refine W_reg rfl ?_
  refine Rv rfl rfl rfl (U_move rfl) rfl rfl ?_
  refine Rv rfl rfl rfl (U_fieldAddrR rfl) rfl rfl ?_
  refine Rv rfl rfl rfl (U_load1 rfl rfl rfl) rfl rfl ?_
  refine Rv rfl rfl rfl (U_lenOf rfl len_ros) rfl rfl ?_
  refine Rv rfl rfl rfl (U_lss rfl rfl) rfl rfl ?_
  refine Re rfl ?_
  refine thenQ_n ?_
  refine WcondP rfl rfl (fun hc0 => ?_) (fun hc0 => ?_)
  · have hck : k < s.es.length := by omega
    have hek := hg.es k hck
    have hll : l.length ≤ s.es.length := by rw [hi0_1, List.length_map]; exact List.length_take_le' _ _
    refine W_skip rfl ?_
    refine thenQ_n ?_
    refine W_seq rfl ?_
    refine W_block rfl ?_
    refine W_seq rfl ?_
    refine W_reg rfl ?_
    refine Rv rfl rfl rfl (U_fieldAddrR rfl) rfl rfl ?_
    refine Rv rfl rfl rfl (U_load1 rfl rfl rfl) rfl rfl ?_
    refine Rv rfl rfl rfl (U_move rfl) rfl rfl ?_
    have hx1 : k < s.es.length := by omega
    refine Rv rfl rfl rfl (U_indexR (j := k) rfl rfl rfl hx1) rfl rfl ?_
    refine Rv rfl rfl rfl (U_load3 rfl rfl (ent0 hx1) (ent1 hx1) (ent2 hx1)) rfl rfl ?_
    refine Ra rfl rfl rfl (U_alloc) rfl rfl rfl ?_
    refine Rn rfl rfl rfl (U_storeAll rfl rfl rfl rfl rfl rfl) rfl ?_
    refine Re rfl ?_
    refine thenQ_n ?_
    refine WfrN 3 rfl rfl (T' := [(1, .rop [i64 s.lo, i64 s.hi, .ros (s.es.flatMap entC) s.es.length c] 0), (2, .ptr 0 0), (3, .ptr 1 0), (4, i64 ((k : Nat) : Int)), (5, .rop [i64 s.es[k].y, i64 s.es[k].lo, i64 s.es[k].hi] 0)]) (H' := [(0, some (.cells [i64 0, i64 0, .nils] 26)), (1, some (.cells [i64 (-s.hi), i64 (-s.lo), .out 2 l.length 3] 26)), (2, outB (l.flatMap entC) 76 l.length)]) ⟨⟨_, rfl, rfl⟩, ⟨_, rfl, rfl⟩, ⟨_, rfl, rfl⟩, ⟨_, rfl, rfl⟩, ⟨_, rfl, rfl⟩, trivial⟩ ⟨⟨rfl, rF rfl rfl⟩, ⟨rfl, rF rfl rfl⟩, ⟨rfl, rFO (flatD (fun _ => rfl) _) rfl⟩, trivial⟩ ?_
    refine W_reg rfl ?_
    refine Rv rfl rfl rfl (U_fieldAddr rfl) rfl rfl ?_
    refine Rv rfl rfl rfl (U_load1 rfl rfl rfl) rfl rfl ?_
    refine Rv rfl rfl rfl (U_fieldAddrR rfl) rfl rfl ?_
    refine Rv rfl rfl rfl (U_load1 rfl rfl rfl) rfl rfl ?_
    refine Rv rfl rfl rfl (U_fieldAddrR rfl) rfl rfl ?_
    refine Rv rfl rfl rfl (U_fieldAddrR rfl) rfl rfl ?_
    refine Rv rfl rfl rfl (U_load1 rfl rfl rfl) rfl rfl ?_
    refine Rv rfl rfl rfl (U_neg rfl (w64 (by omega) (by omega))) rfl rfl ?_
    refine Rv rfl rfl rfl (U_fieldAddrR rfl) rfl rfl ?_
    refine Rv rfl rfl rfl (U_fieldAddrR rfl) rfl rfl ?_
    refine Rv rfl rfl rfl (U_load1 rfl rfl rfl) rfl rfl ?_
    refine Rv rfl rfl rfl (U_neg rfl (w64 (by omega) (by omega))) rfl rfl ?_
    refine Rv rfl rfl rfl (U_build rfl rfl) rfl rfl ?_
    refine Rv rfl rfl rfl (U_build rfl rfl) rfl rfl ?_
    refine Rv rfl rfl rfl (U_buildSliceF (by rfl) (by decide) rfl rfl rfl) rfl rfl ?_
    refine Ra rfl rfl rfl (U_appO (b := 2) (m := 0) (cs' := (l ++ [turnE s.es[k]]).flatMap entC) (n' := (l ++ [turnE s.es[k]]).length) rfl rfl (by simp) rfl (flat_len (z := 3) (fun _ => rfl) _) rfl rfl (by omega) (appF (f := entC) l (turnE s.es[k])) (len1 _ _)) rfl rfl rfl ?_
    refine Rv rfl rfl rfl (U_fieldAddr rfl) rfl rfl ?_
    refine Rn rfl rfl rfl (U_store rfl rfl rfl rfl rfl (Nat.le_of_ble_eq_true rfl) rfl rfl) rfl ?_
    refine Re rfl ?_
    refine blkQ_n ?_
    refine thenQ_n ?_
    refine W_reg rfl ?_
    refine Rv rfl rfl rfl (U_move rfl) rfl rfl ?_
    refine Rv rfl rfl rfl (U_add rfl rfl (w64e (m := ((k + 1 : Nat) : Int)) (by omega) (by omega) (by omega))) rfl rfl ?_
    refine Rv rfl rfl rfl (U_assign rfl) rfl rfl ?_
    refine Re rfl ?_
    refine thenQ_n ?_
    exact againTo (T' := [(1, .rop [i64 s.lo, i64 s.hi, .ros (s.es.flatMap entC) s.es.length c] 0), (2, .ptr 0 0), (3, .ptr 1 0), (4, i64 (((k + 1) : Nat) : Int))]) (H' := [(0, some (.cells [i64 0, i64 0, .nils] 26)), (1, some (.cells [i64 (-s.hi), i64 (-s.lo), .out 2 (l ++ [turnE s.es[k]]).length 3] 26)), (2, outB ((l ++ [turnE s.es[k]]).flatMap entC) 76 (l ++ [turnE s.es[k]]).length)]) (n := 3) (s.es.length - (k + 1)) ⟨k + 1, l ++ [turnE s.es[k]], (by omega), (by rw [take_succ' hck, List.map_append, ← hi0_1]; rfl), rfl, rfl⟩ (by omega) (mapN [0, 1, 4]) ⟨eD rfl rfl, e_ rfl rfl, e_ rfl rfl, eD rfl rfl, trivial⟩ ⟨rD rfl rfl rfl, r_ rfl rfl rfl, rO (flatD (fun _ => rfl) _) rfl rfl, trivial⟩ rfl rfl rfl rfl (fun _ h => absurd h (Nat.not_lt_zero _))
  · obtain rfl : k = s.es.length := by omega
    refine W_exit rfl ?_
    refine thenQ_x ?_
    refine thenQ_x ?_
    refine blkQ_x rfl ?_
    refine thenQ_n ?_
    refine W_seq rfl ?_
    refine W_reg rfl ?_
    refine Rv rfl rfl rfl (U_load3 rfl rfl rfl rfl rfl) rfl rfl ?_
    refine Rn rfl rfl rfl (U_storeAll rfl rfl rfl rfl rfl rfl) rfl ?_
    refine Re rfl ?_
    refine thenQ_n ?_
    refine WfrO 2 (l.flatMap entC) rfl (flatD (fun _ => rfl) _) (T' := [(2, .ptr 0 0)]) (H' := [(0, some (.cells [i64 (-s.hi), i64 (-s.lo), .ros (l.flatMap entC) l.length none] 26))]) ⟨fS rfl rfl, trivial⟩ ⟨⟨rfl, .cells (.cons (.same rfl) (.cons (.same rfl) (.cons .out .nil)))⟩, trivial⟩ ?_
    refine W_ret rfl ?_
    exact retL (rlA rfl rfl rfl rl0) (by first | rfl | (simp only [packA]; rw [show l = (turnS s).es by rw [hi0_1, List.take_length]; rfl]; rfl; first | done | rfl)) rfl
theorem placeError_p (s : Star) (c : Option Nat) (hl : s.es.length ≤ 1000) (y : Int) : Pure Try.prog 88 [starA s c, i64 y] (i64 (plcS s y)) := by
  refine pure_of_body Try.func88 (c := body Try.f88) rfl (by simp [Try.ntmps88]) fun w0 Φ0 => ?_
  refine W_seq rfl ?_
  refine W_reg rfl ?_
  refine Rv rfl rfl rfl (U_boxF rfl rfl rfl) rfl rfl ?_
  refine Rv rfl rfl rfl (U_assign rfl) rfl rfl ?_
  refine Re rfl ?_
  refine thenQ_n ?_
  refine W_seq rfl ?_
  refine W_seq rfl ?_
  refine W_reg rfl ?_
  refine Rv rfl rfl rfl (U_load3 rfl rfl rfl rfl rfl) rfl rfl ?_
  refine Rv rfl rfl rfl (U_call rfl rfl (chkR_p s c (by omega)) rfl) rfl rfl ?_
  refine Rv rfl rfl rfl (U_neq rfl rfl) rfl rfl ?_
  refine Re rfl ?_
  refine thenQ_n ?_
  refine WcondP rfl rfl (fun h0 => ?_) (fun h0 => ?_)
  · have hk : plcS s y = chkS s := by rw [plcS, if_neg h0]
    refine W_seq rfl ?_
    refine W_reg rfl ?_
    refine Rv rfl rfl rfl (U_load3 rfl rfl rfl rfl rfl) rfl rfl ?_
    refine Rv rfl rfl rfl (U_call rfl rfl (chkR_p s c (by omega)) rfl) rfl rfl ?_
    refine Rv rfl rfl rfl (U_assign rfl) rfl rfl ?_
    refine Re rfl ?_
    refine thenQ_n ?_
    refine W_ret rfl ?_
    refine thenQ_r ?_
    exact retL (rlT rfl rl0) (by first | rfl | (simp only [packA]; rw [hk]; first | done | rfl)) rfl
  · rw [Decidable.not_not] at h0
    refine W_skip rfl ?_
    refine thenQ_n ?_
    refine W_seq rfl ?_
    refine W_seq rfl ?_
    refine Wjoin ⟨[(2, .rop [i64 s.lo, i64 s.hi, .ros (s.es.flatMap entC) s.es.length c] 0), (15, .bool ((decide (y < 0)) || (decide (200 < y))))], [], 0, []⟩ ?_ ?_
    · refine W_reg rfl ?_
      refine Rv rfl rfl rfl (U_move rfl) rfl rfl ?_
      refine Rv rfl rfl rfl (U_lss rfl rfl) rfl rfl ?_
      refine Rv rfl rfl rfl (U_move rfl) rfl rfl ?_
      refine Rsplit (t := 12) rfl (fun hg1 => ?_) (fun hg1 => ?_)
      · rw [hg1]
        have hg1' : y < 0 := of_decide_eq_true hg1
        refine Rs rfl rfl rfl rfl rfl ?_
        refine Rs rfl rfl rfl rfl rfl ?_
        refine Rv rfl rfl rfl (U_pick_t rfl rfl) rfl rfl ?_
        refine Re rfl ?_
        exact joinTo id ⟨eD rfl rfl, eD rfl rfl, trivial⟩ trivial rfl rfl rfl rfl (fun _ _ => rfl)
      · rw [hg1]
        have hg1' : ¬ (y < 0) := of_decide_eq_false hg1
        refine Rv rfl rfl rfl (U_move rfl) rfl rfl ?_
        refine Rv rfl rfl rfl (U_gtr rfl rfl) rfl rfl ?_
        refine Rv rfl rfl rfl (U_pick_f rfl rfl) rfl rfl ?_
        refine Re rfl ?_
        exact joinTo id ⟨eD rfl rfl, eD rfl rfl, trivial⟩ trivial rfl rfl rfl rfl (fun _ _ => rfl)
    refine thenQ_n ?_
    refine Wcond rfl rfl (fun hc1 => ?_) (fun hc1 => ?_)
    · have hk : plcS s y = 2 := by { rw [plcS, if_pos h0, if_neg]; simp [inL]; simp at hc1; omega }
      refine W_seq rfl ?_
      refine W_reg rfl ?_
      refine Rv rfl rfl rfl (U_assign rfl) rfl rfl ?_
      refine Re rfl ?_
      refine thenQ_n ?_
      refine W_ret rfl ?_
      refine thenQ_r ?_
      exact retL (rlT rfl rl0) (by first | rfl | (simp only [packA]; rw [hk]; first | done | rfl)) rfl
    · have hc1' := Bool.eq_false_iff.1 hc1
      have hk : plcS s y = movS s := by { rw [plcS, if_pos h0, if_pos]; simp [inL]; simp at hc1; omega }
      refine W_skip rfl ?_
      refine thenQ_n ?_
      refine W_seq rfl ?_
      refine W_reg rfl ?_
      refine Rv rfl rfl rfl (U_load3 rfl rfl rfl rfl rfl) rfl rfl ?_
      refine Rv rfl rfl rfl (U_call rfl rfl (starErrorR_p s c (by omega)) rfl) rfl rfl ?_
      refine Rv rfl rfl rfl (U_assign rfl) rfl rfl ?_
      refine Re rfl ?_
      refine thenQ_n ?_
      refine W_ret rfl ?_
      exact retL (rlT rfl rl0) (by first | rfl | (simp only [packA]; rw [hk]; first | done | rfl)) rfl
end Go.Proofs.Ytapappdgdiaijaa
end

section
/- Contracts of the reference, sixth part: what is left out. -/
namespace Go.Proofs.Ytapappdgdiaijaa
set_option maxRecDepth 20000
open Go.AE
/-- How many of the first bits are 1. -/
def popN (b : Nat) : Nat → Nat
  | 0 => 0
  | i + 1 => popN b i + (b >>> i &&& 1)
theorem popN_le (b : Nat) : ∀ i, popN b i ≤ i
  | 0 => Nat.le_refl _
  | i + 1 => by have := popN_le b i; have h : b >>> i &&& 1 ≤ 1 := Nat.and_le_right; simp only [popN]; omega
theorem popN_end {b i : Nat} (h : b >>> i = 0) : ∀ j, i ≤ j → popN b j = popN b i
  | 0, hj => by obtain rfl : i = 0 := by { omega }; rfl
  | j + 1, hj => by
    by_cases e : i = j + 1
    · rw [e]
    · have h2 : b >>> j = 0 := by
        rw [Nat.shiftRight_eq_div_pow] at h ⊢
        exact Nat.div_eq_of_lt (Nat.lt_of_lt_of_le (Nat.lt_of_div_eq_zero (Nat.two_pow_pos i) h) (Nat.pow_le_pow_right (by omega) (show i ≤ j by omega)))
      simp only [popN, h2, popN_end h j (by omega)]; simp
theorem shr_pos {b i : Nat} (hb : b < 2 ^ 20) (h : 0 < b >>> i) : i < 20 := by
  rw [Nat.shiftRight_eq_div_pow] at h
  by_cases e : i < 20
  · exact e
  · have : b / 2 ^ i = 0 := Nat.div_eq_of_lt (Nat.lt_of_lt_of_le hb (Nat.pow_le_pow_right (by omega) (show 20 ≤ i by omega)))
    omega
theorem and1 (n : Nat) : n &&& 1 ≤ 1 := Nat.and_le_right
theorem size_p (b : Nat) (hb : b < 2 ^ 20) : Pure Try.prog 111 [i64 (b : Nat)] (i64 (popN b 20 : Nat)) := by
  have hb2 : b < 1048576 := hb
  refine pure_of_body Try.func111 (c := body Try.f111) rfl (by simp [Try.ntmps111]) fun w0 Φ0 => ?_
  refine W_seq rfl ?_
  refine W_reg rfl ?_
  refine Rv rfl rfl rfl (U_assign rfl) rfl rfl ?_
  refine Re rfl ?_
  refine thenQ_n ?_
  refine W_seq rfl ?_
  refine W_reg rfl ?_
  refine Rv rfl rfl rfl (U_assign rfl) rfl rfl ?_
  refine Re rfl ?_
  refine thenQ_n ?_
  refine W_seq rfl ?_
  refine W_seq rfl ?_
  refine W_reg rfl ?_
  refine Rv rfl rfl rfl (U_assign rfl) rfl rfl ?_
  refine Re rfl ?_
  refine thenQ_n ?_
  refine W_block rfl ?_
  refine LoopTo (T' := [(0, i64 ((b : Nat) : Int)), (3, i64 ((popN b 0 : Nat) : Int)), (4, i64 ((0 : Nat) : Int))]) (H' := []) (n := 0) rfl (fun mz_ qz_ => ∃ (i : Nat), i ≤ 20 ∧ mz_ = 20 - i ∧ qz_ = ⟨[(0, i64 ((b : Nat) : Int)), (3, i64 ((popN b i : Nat) : Int)), (4, i64 ((i : Nat) : Int))], [], 0, []⟩) ⟨0, (by omega), rfl, rfl⟩ id ⟨eD rfl rfl, eD rfl rfl, eD rfl rfl, trivial⟩ trivial rfl rfl rfl rfl (fun _ _ => rfl) ?_
  rintro _ _ ⟨i, hi0_0, rfl, rfl⟩
  refine W_seq rfl ?_
  refine W_seq rfl ?_
  refine W_reg rfl ?_
  refine Rv rfl rfl rfl (U_move rfl) rfl rfl ?_
  refine Rv rfl rfl rfl (U_move rfl) rfl rfl ?_
  refine Rv rfl rfl rfl (U_shr rfl rfl (by omega) (shrN (n := b) (i := i) (by omega))) rfl rfl ?_
  refine Rv rfl rfl rfl (U_gtr rfl rfl) rfl rfl ?_
  refine Re rfl ?_
  refine thenQ_n ?_
  refine WcondP rfl rfl (fun hc0 => ?_) (fun hc0 => ?_)
  · have hb1 : 0 < b >>> i := by exact_mod_cast hc0
    have hps : popN b (i + 1) = popN b i + (b >>> i &&& 1) := rfl
    have hi20 := shr_pos hb hb1
    have hpo := popN_le b i
    have ha1 := and1 (b >>> i)
    have hsl := Nat.shiftRight_le b i
    refine W_skip rfl ?_
    refine thenQ_n ?_
    refine W_seq rfl ?_
    refine W_block rfl ?_
    refine W_reg rfl ?_
    refine Rv rfl rfl rfl (U_move rfl) rfl rfl ?_
    refine Rv rfl rfl rfl (U_move rfl) rfl rfl ?_
    refine Rv rfl rfl rfl (U_move rfl) rfl rfl ?_
    refine Rv rfl rfl rfl (U_shr rfl rfl (by omega) (shrN (n := b) (i := i) (by omega))) rfl rfl ?_
    refine Rv rfl rfl rfl (U_and rfl rfl (andN (a := b >>> i) (b := 1) (by omega) (by omega))) rfl rfl ?_
    refine Rv rfl rfl rfl (U_add rfl rfl (w64e (m := ((popN b (i + 1) : Nat) : Int)) (by omega) (by omega) (by omega))) rfl rfl ?_
    refine Rv rfl rfl rfl (U_assign rfl) rfl rfl ?_
    refine Re rfl ?_
    refine blkQ_n ?_
    refine thenQ_n ?_
    refine W_reg rfl ?_
    refine Rv rfl rfl rfl (U_move rfl) rfl rfl ?_
    refine Rv rfl rfl rfl (U_add rfl rfl (w64e (m := ((i + 1 : Nat) : Int)) (by omega) (by omega) (by omega))) rfl rfl ?_
    refine Rv rfl rfl rfl (U_assign rfl) rfl rfl ?_
    refine Re rfl ?_
    refine thenQ_n ?_
    exact againTo (T' := [(0, i64 ((b : Nat) : Int)), (3, i64 ((popN b (i + 1) : Nat) : Int)), (4, i64 (((i + 1) : Nat) : Int))]) (H' := []) (n := 0) (20 - (i + 1)) ⟨i + 1, (by omega), rfl, rfl⟩ (by omega) id ⟨eD rfl rfl, eD rfl rfl, eD rfl rfl, trivial⟩ trivial rfl rfl rfl rfl (fun _ _ => rfl)
  · have hb0 : b >>> i = 0 := by { rcases Nat.eq_zero_or_pos (b >>> i) with h | h; exact h; exact absurd (by exact_mod_cast h) hc0 }
    refine W_exit rfl ?_
    refine thenQ_x ?_
    refine thenQ_x ?_
    refine blkQ_x rfl ?_
    refine thenQ_n ?_
    refine W_seq rfl ?_
    refine W_reg rfl ?_
    refine Rv rfl rfl rfl (U_move rfl) rfl rfl ?_
    refine Rv rfl rfl rfl (U_assign rfl) rfl rfl ?_
    refine Re rfl ?_
    refine thenQ_n ?_
    refine W_ret rfl ?_
    exact retL (rlT rfl rl0) (by first | rfl | (simp only [packA]; rw [← popN_end hb0 20 hi0_0]; first | done | rfl)) rfl
/-- The bits of a list. -/
def bitsOf (l : List Int) : Nat := l.foldl (fun n x => n ||| 1 <<< x.toNat) 0
theorem shlI {x : Int} (h0 : 0 ≤ x) (h1 : x < 20) : IntKind.i64.wrap (1 * 2 ^ min x.toNat IntKind.i64.bits) = ((1 <<< x.toNat : Nat) : Int) := by
  obtain ⟨k, rfl⟩ : ∃ k : Nat, x = k := ⟨x.toNat, by omega⟩
  refine shlN (n := 1) (i := k) ?_ (by omega)
  have := Nat.pow_le_pow_right (show 0 < 2 by omega) (show k ≤ 20 by omega)
  omega
theorem or_lt {n : Nat} {x : Int} (h : n < 2 ^ 20) (h0 : 0 ≤ x) (h1 : x < 20) : n ||| 1 <<< x.toNat < 2 ^ 20 := by
  refine Nat.or_lt_two_pow h ?_
  rw [Nat.shiftLeft_eq, Nat.one_mul]
  exact Nat.pow_lt_pow_right (by omega) (by omega)
theorem one_lt {x : Int} (h1 : x < 20) : 1 <<< x.toNat < 9223372036854775808 := by
  rw [Nat.shiftLeft_eq, Nat.one_mul]
  exact Nat.lt_of_le_of_lt (Nat.pow_le_pow_right (show 0 < 2 by omega) (show x.toNat ≤ 20 by omega)) (by decide)
theorem bits_lt : ∀ {l : List Int}, (∀ x ∈ l, 0 ≤ x ∧ x < 20) → bitsOf l < 2 ^ 20 := by
  intro l
  unfold bitsOf
  have : ∀ (l : List Int) (n : Nat), n < 2 ^ 20 → (∀ x ∈ l, 0 ≤ x ∧ x < 20) → l.foldl (fun n x => n ||| 1 <<< x.toNat) n < 2 ^ 20 := by
    intro l
    induction l with
    | nil => intro n hn _; exact hn
    | cons x l ih => intro n hn h; exact ih _ (or_lt hn (h x (by simp)).1 (h x (by simp)).2) fun y hy => h y (by simp [hy])
  exact this l 0 (by decide)
theorem bits_succ {l : List Int} {k : Nat} (h : k < l.length) : bitsOf (l.take (k + 1)) = bitsOf (l.take k) ||| 1 <<< l[k].toNat := by
  unfold bitsOf
  rw [List.take_succ_eq_append_getElem h, List.foldl_append]; rfl
theorem bits_p (l : List Int) (c : Option Nat) (hl : l.length ≤ 1000) (hx : ∀ x ∈ l, 0 ≤ x ∧ x < 20) : Pure Try.prog 59 [intsA l c] (i64 (bitsOf l : Nat)) := by
  refine pure_of_body Try.func59 (c := body Try.f59) rfl (by simp [Try.ntmps59]) fun w0 Φ0 => ?_
  refine W_seq rfl ?_
  refine W_reg rfl ?_
  refine Rv rfl rfl rfl (U_assign rfl) rfl rfl ?_
  refine Re rfl ?_
  refine thenQ_n ?_
  refine W_seq rfl ?_
  refine W_reg rfl ?_
  refine Rv rfl rfl rfl (U_assign rfl) rfl rfl ?_
  refine Re rfl ?_
  refine thenQ_n ?_
  refine W_seq rfl ?_
  refine W_seq rfl ?_
  refine W_reg rfl ?_
  refine Rv rfl rfl rfl (U_assign rfl) rfl rfl ?_
  refine Re rfl ?_
  refine thenQ_n ?_
  refine W_block rfl ?_
  refine LoopTo (T' := [(0, .ros (l.map i64) l.length c), (3, i64 ((0 : Nat) : Int)), (4, i64 ((0 : Nat) : Int))]) (H' := []) (n := 0) rfl (fun mz_ qz_ => ∃ (i : Nat) (n : Nat), i ≤ l.length ∧ n = bitsOf (l.take i) ∧ mz_ = l.length - i ∧ qz_ = ⟨[(0, .ros (l.map i64) l.length c), (3, i64 ((n : Nat) : Int)), (4, i64 ((i : Nat) : Int))], [], 0, []⟩) ⟨0, 0, (by omega), rfl, rfl, rfl⟩ id ⟨eD rfl rfl, eD rfl rfl, eD rfl rfl, trivial⟩ trivial rfl rfl rfl rfl (fun _ _ => rfl) ?_
  rintro _ _ ⟨i, n, hi0_0, hi0_1, rfl, rfl⟩
  refine W_seq rfl ?_
  refine W_seq rfl ?_
  refine W_reg rfl ?_
  refine Rv rfl rfl rfl (U_move rfl) rfl rfl ?_
  refine Rv rfl rfl rfl (U_move rfl) rfl rfl ?_
  refine Rv rfl rfl rfl (U_lenOf rfl len_ros) rfl rfl ?_
  refine Rv rfl rfl rfl (U_lss rfl rfl) rfl rfl ?_
  refine Re rfl ?_
  refine thenQ_n ?_
  refine WcondP rfl rfl (fun hc0 => ?_) (fun hc0 => ?_)
  · have hk1 : i < l.length := by omega
    have hxi := hx l[i] (List.getElem_mem _)
    have hbl := bits_lt (l := l.take i) (fun x h => hx x (List.mem_of_mem_take h))
    have hnl : n < 1048576 := by rw [hi0_1]; exact hbl
    refine W_skip rfl ?_
    refine thenQ_n ?_
    refine W_seq rfl ?_
    refine W_block rfl ?_
    refine W_reg rfl ?_
    refine Rv rfl rfl rfl (U_move rfl) rfl rfl ?_
    refine Rv rfl rfl rfl (U_move rfl) rfl rfl ?_
    refine Rv rfl rfl rfl (U_move rfl) rfl rfl ?_
    have hx1 : i < l.length := by omega
    refine Rv rfl rfl rfl (U_indexR (j := i) rfl rfl rfl hx1) rfl rfl ?_
    refine Rv rfl rfl rfl (U_load1 rfl rfl (getM hx1)) rfl rfl ?_
    refine Rv rfl rfl rfl (U_shl (c := ((1 <<< l[i].toNat : Nat) : Int)) rfl rfl (by omega) (shlI hxi.1 hxi.2)) rfl rfl ?_
    refine Rv rfl rfl rfl (U_or rfl rfl (orN (a := n) (b := 1 <<< l[i].toNat) (by omega) (one_lt hxi.2))) rfl rfl ?_
    refine Rv rfl rfl rfl (U_assign rfl) rfl rfl ?_
    refine Re rfl ?_
    refine blkQ_n ?_
    refine thenQ_n ?_
    refine W_reg rfl ?_
    refine Rv rfl rfl rfl (U_move rfl) rfl rfl ?_
    refine Rv rfl rfl rfl (U_add rfl rfl (w64e (m := ((i + 1 : Nat) : Int)) (by omega) (by omega) (by omega))) rfl rfl ?_
    refine Rv rfl rfl rfl (U_assign rfl) rfl rfl ?_
    refine Re rfl ?_
    refine thenQ_n ?_
    exact againTo (T' := [(0, .ros (l.map i64) l.length c), (3, i64 (((n ||| 1 <<< l[i].toNat) : Nat) : Int)), (4, i64 (((i + 1) : Nat) : Int))]) (H' := []) (n := 0) (l.length - (i + 1)) ⟨i + 1, n ||| 1 <<< l[i].toNat, (by omega), (by rw [bits_succ hk1, ← hi0_1]), rfl, rfl⟩ (by omega) id ⟨eD rfl rfl, eD rfl rfl, eD rfl rfl, trivial⟩ trivial rfl rfl rfl rfl (fun _ _ => rfl)
  · obtain rfl : i = l.length := by omega
    refine W_exit rfl ?_
    refine thenQ_x ?_
    refine thenQ_x ?_
    refine blkQ_x rfl ?_
    refine thenQ_n ?_
    refine W_seq rfl ?_
    refine W_reg rfl ?_
    refine Rv rfl rfl rfl (U_move rfl) rfl rfl ?_
    refine Rv rfl rfl rfl (U_assign rfl) rfl rfl ?_
    refine Re rfl ?_
    refine thenQ_n ?_
    refine W_ret rfl ?_
    exact retL (rlT rfl rl0) (by first | rfl | (simp only [packA]; rw [hi0_1, List.take_length]; first | done | rfl)) rfl
theorem bit_f {b k : Nat} (h : (((b >>> k &&& 1 : Nat) : Int)) = 0) : b.testBit k = false := by
  have h2 : b >>> k &&& 1 = 0 := by exact_mod_cast h
  rw [Nat.testBit, Nat.and_comm, h2]; rfl
theorem bit_t {b k : Nat} (h : ¬ (((b >>> k &&& 1 : Nat) : Int)) = 0) : b.testBit k = true := by
  have h2 : b >>> k &&& 1 ≠ 0 := fun e => h (by exact_mod_cast e)
  rw [Nat.testBit, Nat.and_comm]; simpa using h2
theorem withoutR_p (s : Star) (c : Option Nat) (hl : s.es.length ≤ 1000) (b : Nat) (hb : b < 2 ^ 20) : Pure Try.prog 50 [starA s c, i64 (b : Nat)] (starA (withoutS s b.testBit) none) := by
  have hb2 : b < 1048576 := hb
  refine pure_of_body Try.func50 (c := body Try.f50) rfl (by simp [Try.ntmps50]) fun w0 Φ0 => ?_
  refine W_seq rfl ?_
  refine W_reg rfl ?_
  refine Rv rfl rfl rfl (U_boxF rfl rfl rfl) rfl rfl ?_
  refine Ra rfl rfl rfl (U_alloc) rfl rfl rfl ?_
  refine Re rfl ?_
  refine thenQ_n ?_
  refine W_seq rfl ?_
  refine W_reg rfl ?_
  refine Rv rfl rfl rfl (U_fieldAddrR rfl) rfl rfl ?_
  refine Rv rfl rfl rfl (U_load2 rfl rfl rfl rfl) rfl rfl ?_
  refine Rv rfl rfl rfl (U_build rfl rfl) rfl rfl ?_
  refine Ra rfl rfl rfl (U_alloc) rfl rfl rfl ?_
  refine Rn rfl rfl rfl (U_storeAll rfl rfl rfl rfl rfl rfl) rfl ?_
  refine Re rfl ?_
  refine thenQ_n ?_
  refine W_seq rfl ?_
  refine W_seq rfl ?_
  refine W_reg rfl ?_
  refine Rv rfl rfl rfl (U_assign rfl) rfl rfl ?_
  refine Re rfl ?_
  refine thenQ_n ?_
  refine W_block rfl ?_
  refine WweakH (b := 1) (cs' := [i64 s.lo, i64 s.hi, .out 2 0 3]) rfl (leL_cons (le_refl _) (leL_cons (le_refl _) (leL_cons le_nils_out (leL_refl _)))) ?_
  refine LoopTo (T' := [(1, i64 ((b : Nat) : Int)), (2, .rop [i64 s.lo, i64 s.hi, .ros (s.es.flatMap entC) s.es.length c] 0), (4, .ptr 0 0), (5, .ptr 1 0), (6, i64 ((0 : Nat) : Int))]) (H' := [(0, some (.cells [i64 0, i64 0, .nils] 26)), (1, some (.cells [i64 s.lo, i64 s.hi, .out 2 [].length 3] 26)), (2, outB ([].flatMap entC) 76 [].length)]) (n := 3) rfl (fun mz_ qz_ => ∃ (k : Nat) (l : List Ent), k ≤ s.es.length ∧ l = kept b.testBit s.es k ∧ mz_ = s.es.length - k ∧ qz_ = ⟨[(1, i64 ((b : Nat) : Int)), (2, .rop [i64 s.lo, i64 s.hi, .ros (s.es.flatMap entC) s.es.length c] 0), (4, .ptr 0 0), (5, .ptr 1 0), (6, i64 ((k : Nat) : Int))], [(0, some (.cells [i64 0, i64 0, .nils] 26)), (1, some (.cells [i64 s.lo, i64 s.hi, .out 2 l.length 3] 26)), (2, outB (l.flatMap entC) 76 l.length)], 3, []⟩) ⟨0, [], (by omega), rfl, rfl, rfl⟩ id ⟨eD rfl rfl, eD rfl rfl, e_ rfl rfl, e_ rfl rfl, eD rfl rfl, trivial⟩ ⟨rD rfl rfl rfl, r_ rfl rfl rfl, rO0 rfl, trivial⟩ rfl rfl rfl rfl (fun _ _ => rfl) ?_
  rintro _ _ ⟨k, l, hi0_0, hi0_1, rfl, rfl⟩
  refine W_seq rfl ?_
  refine W_seq rfl ?_
  refine W_reg rfl ?_
  refine Rv rfl rfl rfl (U_move rfl) rfl rfl ?_
  refine Rv rfl rfl rfl (U_fieldAddrR rfl) rfl rfl ?_
  refine Rv rfl rfl rfl (U_load1 rfl rfl rfl) rfl rfl ?_
  refine Rv rfl rfl rfl (U_lenOf rfl len_ros) rfl rfl ?_
  refine Rv rfl rfl rfl (U_lss rfl rfl) rfl rfl ?_
  refine Re rfl ?_
  refine thenQ_n ?_
  refine WcondP rfl rfl (fun hc0 => ?_) (fun hc0 => ?_)
  · have hck : k < s.es.length := by omega
    have hsl := Nat.shiftRight_le b k
    refine W_skip rfl ?_
    refine thenQ_n ?_
    refine W_seq rfl ?_
    refine W_block rfl ?_
    refine W_seq rfl ?_
    refine W_reg rfl ?_
    refine Rv rfl rfl rfl (U_move rfl) rfl rfl ?_
    refine Rv rfl rfl rfl (U_move rfl) rfl rfl ?_
    refine Rv rfl rfl rfl (U_shr rfl rfl (by omega) (shrN (n := b) (i := k) (by omega))) rfl rfl ?_
    refine Rv rfl rfl rfl (U_and rfl rfl (andN (a := b >>> k) (b := 1) (by omega) (by omega))) rfl rfl ?_
    refine Rv rfl rfl rfl (U_eql rfl rfl) rfl rfl ?_
    refine Re rfl ?_
    refine thenQ_n ?_
    refine WcondP rfl rfl (fun hc1 => ?_) (fun hc1 => ?_)
    · have hbt := bit_f hc1
      have hll := kept_len b.testBit s.es k
      rw [← hi0_1] at hll
      refine Wjoin ⟨[(1, i64 ((b : Nat) : Int)), (2, .rop [i64 s.lo, i64 s.hi, .ros (s.es.flatMap entC) s.es.length c] 0), (4, .ptr 0 0), (5, .ptr 1 0), (6, i64 ((k : Nat) : Int))], [(0, some (.cells [i64 0, i64 0, .nils] 26)), (1, some (.cells [i64 s.lo, i64 s.hi, .out 3 ((l ++ [s.es[k]]).length) 3] 26)), (3, outB ((l ++ [s.es[k]]).flatMap entC) 76 ((l ++ [s.es[k]]).length))], 4, []⟩ ?_ ?_
      · rcases Nat.eq_zero_or_pos l.length with hz1 | hz1
        · refine Wdraw rfl (by kernel_rfl) (by kernel_rfl) ?_
          refine Dv rfl rfl rfl (U_fieldAddr rfl) rfl rfl ?_
          refine Dv rfl rfl rfl (U_load1 rfl rfl rfl) rfl rfl ?_
          refine Dv rfl rfl rfl (U_fieldAddrR rfl) rfl rfl ?_
          refine Dv rfl rfl rfl (U_load1 rfl rfl rfl) rfl rfl ?_
          refine Dv rfl rfl rfl (U_move rfl) rfl rfl ?_
          have hx2 : k < s.es.length := by omega
          refine Dv rfl rfl rfl (U_indexR (j := k) rfl rfl rfl hx2) rfl rfl ?_
          refine Dv rfl rfl rfl (U_load3 rfl rfl (ent0 hx2) (ent1 hx2) (ent2 hx2)) rfl rfl ?_
          refine Dv rfl rfl rfl (U_buildSliceF (by rfl) (by decide) rfl rfl rfl) rfl rfl ?_
          refine Da rfl rfl rfl (U_appO0 (b := 2) (cs := (l.flatMap entC)) (m := 0) (cs' := (l ++ [s.es[k]]).flatMap entC) (n' := (l ++ [s.es[k]]).length) rfl hz1 rfl (by simp) (flat_len (z := 3) (fun _ => rfl) _) rfl (by omega) (appF (f := entC) l s.es[k]) (len1 _ _)) rfl rfl rfl rfl ?_
          refine Dv rfl rfl rfl (U_fieldAddr rfl) rfl rfl ?_
          refine Dn_ rfl rfl rfl (U_store rfl rfl rfl rfl rfl (Nat.le_of_ble_eq_true rfl) rfl rfl) rfl rfl ?_
          refine Dr.nil rfl ?_
          exact joinTo id ⟨eD rfl rfl, eD rfl rfl, e_ rfl rfl, e_ rfl rfl, eD rfl rfl, trivial⟩ ⟨rD rfl rfl rfl, r_ rfl rfl rfl, rO (flatD (fun _ => rfl) _) rfl rfl, trivial⟩ rfl rfl rfl rfl (fun _ _ => rfl)
        · refine Wdraw rfl (by kernel_rfl) (by kernel_rfl) ?_
          refine Dv rfl rfl rfl (U_fieldAddr rfl) rfl rfl ?_
          refine Dv rfl rfl rfl (U_load1 rfl rfl rfl) rfl rfl ?_
          refine Dv rfl rfl rfl (U_fieldAddrR rfl) rfl rfl ?_
          refine Dv rfl rfl rfl (U_load1 rfl rfl rfl) rfl rfl ?_
          refine Dv rfl rfl rfl (U_move rfl) rfl rfl ?_
          have hx3 : k < s.es.length := by omega
          refine Dv rfl rfl rfl (U_indexR (j := k) rfl rfl rfl hx3) rfl rfl ?_
          refine Dv rfl rfl rfl (U_load3 rfl rfl (ent0 hx3) (ent1 hx3) (ent2 hx3)) rfl rfl ?_
          refine Dv rfl rfl rfl (U_buildSliceF (by rfl) (by decide) rfl rfl rfl) rfl rfl ?_
          refine Da rfl rfl rfl (U_appO (b := 2) (m := 0) (cs' := (l ++ [s.es[k]]).flatMap entC) (n' := (l ++ [s.es[k]]).length) rfl rfl (by simp) rfl (flat_len (z := 3) (fun _ => rfl) _) rfl rfl (by omega) (appF (f := entC) l s.es[k]) (len1 _ _)) rfl rfl rfl (upsO rfl hz1) ?_
          refine Dv rfl rfl rfl (U_fieldAddr rfl) rfl rfl ?_
          refine Dn_ rfl rfl rfl (U_store rfl rfl rfl rfl rfl (Nat.le_of_ble_eq_true rfl) rfl rfl) rfl rfl ?_
          refine Dr.nil rfl ?_
          exact joinTo id ⟨eD rfl rfl, eD rfl rfl, e_ rfl rfl, e_ rfl rfl, eD rfl rfl, trivial⟩ ⟨rD rfl rfl rfl, r_ rfl rfl rfl, rO (flatD (fun _ => rfl) _) rfl rfl, trivial⟩ rfl rfl rfl rfl (fun _ _ => rfl)
      refine blkQ_n ?_
      refine thenQ_n ?_
      refine W_reg rfl ?_
      refine Rv rfl rfl rfl (U_move rfl) rfl rfl ?_
      refine Rv rfl rfl rfl (U_add rfl rfl (w64e (m := ((k + 1 : Nat) : Int)) (by omega) (by omega) (by omega))) rfl rfl ?_
      refine Rv rfl rfl rfl (U_assign rfl) rfl rfl ?_
      refine Re rfl ?_
      refine thenQ_n ?_
      exact againTo (T' := [(1, i64 ((b : Nat) : Int)), (2, .rop [i64 s.lo, i64 s.hi, .ros (s.es.flatMap entC) s.es.length c] 0), (4, .ptr 0 0), (5, .ptr 1 0), (6, i64 (((k + 1) : Nat) : Int))]) (H' := [(0, some (.cells [i64 0, i64 0, .nils] 26)), (1, some (.cells [i64 s.lo, i64 s.hi, .out 2 (l ++ [s.es[k]]).length 3] 26)), (2, outB ((l ++ [s.es[k]]).flatMap entC) 76 (l ++ [s.es[k]]).length)]) (n := 3) (s.es.length - (k + 1)) ⟨k + 1, l ++ [s.es[k]], (by omega), (by simp [kept, hbt, hck, hi0_1]), rfl, rfl⟩ (by omega) (mapN [0, 1, 3]) ⟨eD rfl rfl, eD rfl rfl, e_ rfl rfl, e_ rfl rfl, eD rfl rfl, trivial⟩ ⟨rD rfl rfl rfl, r_ rfl rfl rfl, rO (flatD (fun _ => rfl) _) rfl rfl, trivial⟩ rfl rfl rfl rfl (fun _ h => absurd h (Nat.not_lt_zero _))
    · have hbt := bit_t hc1
      refine W_skip rfl ?_
      refine blkQ_n ?_
      refine thenQ_n ?_
      refine W_reg rfl ?_
      refine Rv rfl rfl rfl (U_move rfl) rfl rfl ?_
      refine Rv rfl rfl rfl (U_add rfl rfl (w64e (m := ((k + 1 : Nat) : Int)) (by omega) (by omega) (by omega))) rfl rfl ?_
      refine Rv rfl rfl rfl (U_assign rfl) rfl rfl ?_
      refine Re rfl ?_
      refine thenQ_n ?_
      exact againTo (T' := [(1, i64 ((b : Nat) : Int)), (2, .rop [i64 s.lo, i64 s.hi, .ros (s.es.flatMap entC) s.es.length c] 0), (4, .ptr 0 0), (5, .ptr 1 0), (6, i64 (((k + 1) : Nat) : Int))]) (H' := [(0, some (.cells [i64 0, i64 0, .nils] 26)), (1, some (.cells [i64 s.lo, i64 s.hi, .out 2 l.length 3] 26)), (2, outB (l.flatMap entC) 76 l.length)]) (n := 3) (s.es.length - (k + 1)) ⟨k + 1, l, (by omega), (by simp [kept, hbt, hck, hi0_1]), rfl, rfl⟩ (by omega) id ⟨eD rfl rfl, eD rfl rfl, e_ rfl rfl, e_ rfl rfl, eD rfl rfl, trivial⟩ ⟨rD rfl rfl rfl, r_ rfl rfl rfl, rO (flatD (fun _ => rfl) _) rfl rfl, trivial⟩ rfl rfl rfl rfl (fun _ _ => rfl)
  · obtain rfl : k = s.es.length := by omega
    refine W_exit rfl ?_
    refine thenQ_x ?_
    refine thenQ_x ?_
    refine blkQ_x rfl ?_
    refine thenQ_n ?_
    refine W_seq rfl ?_
    refine W_reg rfl ?_
    refine Rv rfl rfl rfl (U_load3 rfl rfl rfl rfl rfl) rfl rfl ?_
    refine Rn rfl rfl rfl (U_storeAll rfl rfl rfl rfl rfl rfl) rfl ?_
    refine Re rfl ?_
    refine thenQ_n ?_
    refine WfrO 2 (l.flatMap entC) rfl (flatD (fun _ => rfl) _) (T' := [(4, .ptr 0 0)]) (H' := [(0, some (.cells [i64 s.lo, i64 s.hi, .ros (l.flatMap entC) l.length none] 26))]) ⟨fS rfl rfl, trivial⟩ ⟨⟨rfl, .cells (.cons (.same rfl) (.cons (.same rfl) (.cons .out .nil)))⟩, trivial⟩ ?_
    refine W_ret rfl ?_
    exact retL (rlA rfl rfl rfl rl0) (by first | rfl | (simp only [packA]; rw [hi0_1]; rfl; first | done | rfl)) rfl
/-- The best bits so far, and how many bits they have. -/
def stepBst (s : Star) (q : Nat × List Int) (b : Nat) : Nat × List Int :=
  if (decide (q.1 < popN b 20) || !hasB (withoutS s b.testBit)) = true then q else if popN b 20 < q.1 then (popN b 20, [(b : Int)]) else (q.1, q.2 ++ [(b : Int)])
def bstN (s : Star) (k : Nat) : Nat × List Int := (List.range k).foldl (stepBst s) (s.es.length, [])
def bstQ (s : Star) : Nat × List Int := bstN s (1 <<< s.es.length)
theorem bstN_succ (s : Star) (k : Nat) : bstN s (k + 1) = stepBst s (bstN s k) k := by unfold bstN; rw [List.range_succ, List.foldl_append]; rfl
theorem bstN_len (s : Star) : ∀ k, (bstN s k).2.length ≤ k
  | 0 => by simp [bstN]
  | k + 1 => by
    have := bstN_len s k
    rw [bstN_succ]; unfold stepBst
    split
    · omega
    · split
      · simp
      · simp; omega
theorem dec_or {a b : Bool} (h : (a || b) = true) : (a || b) = true := h
theorem bst_t {s : Star} {k best : Nat} {l : List Int} (hq : (best, l) = bstN s k) (h : (decide ((best : Int) < (popN k 20 : Nat)) || !hasB (withoutS s k.testBit)) = true) : (best, l) = bstN s (k + 1) := by
  rw [bstN_succ, ← hq, stepBst, if_pos (by simpa using h)]
theorem bst_l {s : Star} {k best : Nat} {l : List Int} (hq : (best, l) = bstN s k) (h : (decide ((best : Int) < (popN k 20 : Nat)) || !hasB (withoutS s k.testBit)) = false) (h2 : ((popN k 20 : Nat) : Int) < best) : (popN k 20, [(k : Int)]) = bstN s (k + 1) := by
  rw [bstN_succ, ← hq, stepBst, if_neg (by simpa using h), if_pos (by exact_mod_cast h2)]
theorem bst_e {s : Star} {k best : Nat} {l : List Int} (hq : (best, l) = bstN s k) (h : (decide ((best : Int) < (popN k 20 : Nat)) || !hasB (withoutS s k.testBit)) = false) (h2 : ¬ ((popN k 20 : Nat) : Int) < best) : (best, l ++ [(k : Int)]) = bstN s (k + 1) := by
  rw [bstN_succ, ← hq, stepBst, if_neg (by simpa using h), if_neg (fun e => h2 (by exact_mod_cast e))]
theorem best_p92 (s : Star) (c : Option Nat) (hg : Good s) (hn : s.es.length ≤ 12) : Pure Try.prog 92 [starA s c] (.tup [intsA (bstQ s).2 none, i64 ((bstQ s).1 : Nat)]) := by
  have hp3 : 0 < 2 ^ s.es.length := Nat.two_pow_pos _
  have hp1 : 1 <<< s.es.length = 2 ^ s.es.length := by rw [Nat.shiftLeft_eq, Nat.one_mul]
  have hp2 : 2 ^ s.es.length ≤ 4096 := Nat.pow_le_pow_right (by omega) hn
  refine pure_of_body Try.func92 (c := body Try.f92) rfl (by simp [Try.ntmps92]) fun w0 Φ0 => ?_
  refine W_seq rfl ?_
  refine W_reg rfl ?_
  refine Rv rfl rfl rfl (U_boxF rfl rfl rfl) rfl rfl ?_
  refine Rv rfl rfl rfl (U_assign rfl) rfl rfl ?_
  refine Rv rfl rfl rfl (U_assign rfl) rfl rfl ?_
  refine Re rfl ?_
  refine thenQ_n ?_
  refine W_seq rfl ?_
  refine W_reg rfl ?_
  refine Rv rfl rfl rfl (U_fieldAddrR rfl) rfl rfl ?_
  refine Rv rfl rfl rfl (U_load1 rfl rfl rfl) rfl rfl ?_
  refine Rv rfl rfl rfl (U_lenOf rfl len_ros) rfl rfl ?_
  refine Rv rfl rfl rfl (U_assign rfl) rfl rfl ?_
  refine Re rfl ?_
  refine thenQ_n ?_
  refine W_seq rfl ?_
  refine W_reg rfl ?_
  refine Rv rfl rfl rfl (U_assign rfl) rfl rfl ?_
  refine Re rfl ?_
  refine thenQ_n ?_
  refine W_seq rfl ?_
  refine W_seq rfl ?_
  refine W_reg rfl ?_
  refine Rv rfl rfl rfl (U_assign rfl) rfl rfl ?_
  refine Re rfl ?_
  refine thenQ_n ?_
  refine W_block rfl ?_
  refine LoopTo (T' := [(1, .rop [i64 s.lo, i64 s.hi, .ros (s.es.flatMap entC) s.es.length c] 0), (4, i64 ((s.es.length : Nat) : Int)), (5, .out 0 [].length 1), (6, i64 ((0 : Nat) : Int))]) (H' := [(0, outB ([].map i64) 3 [].length)]) (n := 1) rfl (fun mz_ qz_ => ∃ (k : Nat) (best : Nat) (l : List Int), k ≤ 1 <<< s.es.length ∧ (best, l) = bstN s k ∧ mz_ = 1 <<< s.es.length - k ∧ qz_ = ⟨[(1, .rop [i64 s.lo, i64 s.hi, .ros (s.es.flatMap entC) s.es.length c] 0), (4, i64 ((best : Nat) : Int)), (5, .out 0 l.length 1), (6, i64 ((k : Nat) : Int))], [(0, outB (l.map i64) 3 l.length)], 1, []⟩) ⟨0, s.es.length, [], (by omega), rfl, rfl, rfl⟩ id ⟨eD rfl rfl, eD rfl rfl, eW rfl le_nils_out rfl, eD rfl rfl, trivial⟩ ⟨rO0 rfl, trivial⟩ rfl rfl rfl rfl (fun _ _ => rfl) ?_
  rintro _ _ ⟨k, best, l, hi0_0, hi0_1, rfl, rfl⟩
  refine W_seq rfl ?_
  refine W_seq rfl ?_
  refine W_reg rfl ?_
  refine Rv rfl rfl rfl (U_move rfl) rfl rfl ?_
  refine Rv rfl rfl rfl (U_fieldAddrR rfl) rfl rfl ?_
  refine Rv rfl rfl rfl (U_load1 rfl rfl rfl) rfl rfl ?_
  refine Rv rfl rfl rfl (U_lenOf rfl len_ros) rfl rfl ?_
  refine Rv rfl rfl rfl (U_shl rfl rfl (by omega) (shlN (n := 1) (i := s.es.length) (by omega) (by omega))) rfl rfl ?_
  refine Rv rfl rfl rfl (U_lss rfl rfl) rfl rfl ?_
  refine Re rfl ?_
  refine thenQ_n ?_
  refine WcondP rfl rfl (fun hc0 => ?_) (fun hc0 => ?_)
  · have hk1 : k < 2 ^ s.es.length := by rw [hp1] at hc0; exact_mod_cast hc0
    have hb : k < 2 ^ 20 := by omega
    have hll := bstN_len s k
    rw [← hi0_1] at hll
    replace hll : l.length ≤ k := hll
    refine W_skip rfl ?_
    refine thenQ_n ?_
    refine W_seq rfl ?_
    refine W_block rfl ?_
    refine W_seq rfl ?_
    refine W_reg rfl ?_
    refine Rv rfl rfl rfl (U_move rfl) rfl rfl ?_
    refine Rv rfl rfl rfl (U_call rfl rfl (size_p k (by omega)) rfl) rfl rfl ?_
    refine Rv rfl rfl rfl (U_assign rfl) rfl rfl ?_
    refine Re rfl ?_
    refine thenQ_n ?_
    refine W_seq rfl ?_
    refine W_seq rfl ?_
    refine Wjoin ⟨[(1, .rop [i64 s.lo, i64 s.hi, .ros (s.es.flatMap entC) s.es.length c] 0), (4, i64 ((best : Nat) : Int)), (5, .out 0 l.length 1), (6, i64 ((k : Nat) : Int)), (7, i64 ((popN k 20 : Nat) : Int)), (30, .bool ((decide (((best : Nat) : Int) < ((popN k 20 : Nat) : Int))) || (!(hasB (withoutS s (k : Nat).testBit)))))], [(0, outB (l.map i64) 3 l.length)], 1, []⟩ ?_ ?_
    · refine W_reg rfl ?_
      refine Rv rfl rfl rfl (U_move rfl) rfl rfl ?_
      refine Rv rfl rfl rfl (U_move rfl) rfl rfl ?_
      refine Rv rfl rfl rfl (U_gtr rfl rfl) rfl rfl ?_
      refine Rv rfl rfl rfl (U_move rfl) rfl rfl ?_
      refine Rsplit (t := 24) rfl (fun hg1 => ?_) (fun hg1 => ?_)
      · rw [hg1]
        have hg1' : ((best : Nat) : Int) < ((popN k 20 : Nat) : Int) := of_decide_eq_true hg1
        refine Rs rfl rfl rfl rfl rfl ?_
        refine Rs rfl rfl rfl rfl rfl ?_
        refine Rs rfl rfl rfl rfl rfl ?_
        refine Rs rfl rfl rfl rfl rfl ?_
        refine Rs rfl rfl rfl rfl rfl ?_
        refine Rv rfl rfl rfl (U_pick_t rfl rfl) rfl rfl ?_
        refine Re rfl ?_
        exact joinTo id ⟨eD rfl rfl, eD rfl rfl, e_ rfl rfl, eD rfl rfl, eD rfl rfl, eD rfl rfl, trivial⟩ ⟨rO (mapD (fun _ => rfl) _) rfl rfl, trivial⟩ rfl rfl rfl rfl (fun _ _ => rfl)
      · rw [hg1]
        have hg1' : ¬ (((best : Nat) : Int) < ((popN k 20 : Nat) : Int)) := of_decide_eq_false hg1
        refine Rv rfl rfl rfl (U_load3 rfl rfl rfl rfl rfl) rfl rfl ?_
        refine Rv rfl rfl rfl (U_move rfl) rfl rfl ?_
        refine Rv rfl rfl rfl (U_call rfl rfl (withoutR_p s c (by omega) k hb) rfl) rfl rfl ?_
        refine Rv rfl rfl rfl (U_call rfl rfl (hasR_p (withoutS s (k : Nat).testBit) none (by first | exact hg | exact good_without hg _ | exact good_of (by assumption))) rfl) rfl rfl ?_
        refine Rv rfl rfl rfl (U_not rfl) rfl rfl ?_
        refine Rv rfl rfl rfl (U_pick_f rfl rfl) rfl rfl ?_
        refine Re rfl ?_
        exact joinTo id ⟨eD rfl rfl, eD rfl rfl, e_ rfl rfl, eD rfl rfl, eD rfl rfl, eD rfl rfl, trivial⟩ ⟨rO (mapD (fun _ => rfl) _) rfl rfl, trivial⟩ rfl rfl rfl rfl (fun _ _ => rfl)
    refine thenQ_n ?_
    refine Wcond rfl rfl (fun hc1 => ?_) (fun hc1 => ?_)
    · refine W_exit rfl ?_
      refine thenQ_x ?_
      refine blkQ_x rfl ?_
      refine thenQ_n ?_
      refine W_reg rfl ?_
      refine Rv rfl rfl rfl (U_move rfl) rfl rfl ?_
      refine Rv rfl rfl rfl (U_add rfl rfl (w64e (m := ((k + 1 : Nat) : Int)) (by omega) (by omega) (by omega))) rfl rfl ?_
      refine Rv rfl rfl rfl (U_assign rfl) rfl rfl ?_
      refine Re rfl ?_
      refine thenQ_n ?_
      exact againTo (T' := [(1, .rop [i64 s.lo, i64 s.hi, .ros (s.es.flatMap entC) s.es.length c] 0), (4, i64 ((best : Nat) : Int)), (5, .out 0 l.length 1), (6, i64 (((k + 1) : Nat) : Int))]) (H' := [(0, outB (l.map i64) 3 l.length)]) (n := 1) (1 <<< s.es.length - (k + 1)) ⟨k + 1, best, l, (by omega), (by first | exact bst_t hi0_1 hc1 | exact bst_l hi0_1 hc1 hc2 | exact bst_e hi0_1 hc1 hc2), rfl, rfl⟩ (by omega) id ⟨eD rfl rfl, eD rfl rfl, e_ rfl rfl, eD rfl rfl, trivial⟩ ⟨rO (mapD (fun _ => rfl) _) rfl rfl, trivial⟩ rfl rfl rfl rfl (fun _ _ => rfl)
    · have hc1' := Bool.eq_false_iff.1 hc1
      refine W_skip rfl ?_
      refine thenQ_n ?_
      refine W_seq rfl ?_
      refine W_seq rfl ?_
      refine W_reg rfl ?_
      refine Rv rfl rfl rfl (U_move rfl) rfl rfl ?_
      refine Rv rfl rfl rfl (U_move rfl) rfl rfl ?_
      refine Rv rfl rfl rfl (U_lss rfl rfl) rfl rfl ?_
      refine Re rfl ?_
      refine thenQ_n ?_
      refine WcondP rfl rfl (fun hc2 => ?_) (fun hc2 => ?_)
      · refine W_seq rfl ?_
        refine W_reg rfl ?_
        refine Rv rfl rfl rfl (U_move rfl) rfl rfl ?_
        refine Rv rfl rfl rfl (U_assign rfl) rfl rfl ?_
        refine Re rfl ?_
        refine thenQ_n ?_
        refine W_reg rfl ?_
        refine Rv rfl rfl rfl (U_assign rfl) rfl rfl ?_
        refine Re rfl ?_
        refine thenQ_n ?_
        refine W_reg rfl ?_
        refine Rv rfl rfl rfl (U_move rfl) rfl rfl ?_
        refine Rv rfl rfl rfl (U_move rfl) rfl rfl ?_
        refine Rv rfl rfl rfl (U_buildSliceF (by rfl) (by decide) rfl rfl rfl) rfl rfl ?_
        refine Ra rfl rfl rfl (U_appN (m := 0) (cs' := [((k : Nat) : Int)].map i64) (n' := [((k : Nat) : Int)].length) rfl rfl rfl (by omega) rfl rfl) rfl rfl rfl ?_
        refine Rv rfl rfl rfl (U_assign rfl) rfl rfl ?_
        refine Re rfl ?_
        refine blkQ_n ?_
        refine thenQ_n ?_
        refine W_reg rfl ?_
        refine Rv rfl rfl rfl (U_move rfl) rfl rfl ?_
        refine Rv rfl rfl rfl (U_add rfl rfl (w64e (m := ((k + 1 : Nat) : Int)) (by omega) (by omega) (by omega))) rfl rfl ?_
        refine Rv rfl rfl rfl (U_assign rfl) rfl rfl ?_
        refine Re rfl ?_
        refine thenQ_n ?_
        exact againTo (T' := [(1, .rop [i64 s.lo, i64 s.hi, .ros (s.es.flatMap entC) s.es.length c] 0), (4, i64 (((popN k 20) : Nat) : Int)), (5, .out 0 [((k : Nat) : Int)].length 1), (6, i64 (((k + 1) : Nat) : Int))]) (H' := [(0, outB ([((k : Nat) : Int)].map i64) 3 [((k : Nat) : Int)].length)]) (n := 1) (1 <<< s.es.length - (k + 1)) ⟨k + 1, popN k 20, [((k : Nat) : Int)], (by omega), (by first | exact bst_t hi0_1 hc1 | exact bst_l hi0_1 hc1 hc2 | exact bst_e hi0_1 hc1 hc2), rfl, rfl⟩ (by omega) (mapN [1]) ⟨eD rfl rfl, eD rfl rfl, e_ rfl rfl, eD rfl rfl, trivial⟩ ⟨rO (mapD (fun _ => rfl) _) rfl rfl, trivial⟩ rfl rfl rfl rfl (fun _ h => absurd h (Nat.not_lt_zero _))
      · refine W_skip rfl ?_
        refine thenQ_n ?_
        refine W_reg rfl ?_
        refine Rv rfl rfl rfl (U_move rfl) rfl rfl ?_
        refine Rv rfl rfl rfl (U_move rfl) rfl rfl ?_
        refine Rv rfl rfl rfl (U_buildSliceF (by rfl) (by decide) rfl rfl rfl) rfl rfl ?_
        refine Ra rfl rfl rfl (U_appO (b := 0) (m := 0) (cs' := (l ++ [((k : Nat) : Int)]).map i64) (n' := (l ++ [((k : Nat) : Int)]).length) rfl rfl (by simp) rfl (map_len1 _) rfl rfl (by omega) (appM _ _) (len1 _ _)) rfl rfl rfl ?_
        refine Rv rfl rfl rfl (U_assign rfl) rfl rfl ?_
        refine Re rfl ?_
        refine blkQ_n ?_
        refine thenQ_n ?_
        refine W_reg rfl ?_
        refine Rv rfl rfl rfl (U_move rfl) rfl rfl ?_
        refine Rv rfl rfl rfl (U_add rfl rfl (w64e (m := ((k + 1 : Nat) : Int)) (by omega) (by omega) (by omega))) rfl rfl ?_
        refine Rv rfl rfl rfl (U_assign rfl) rfl rfl ?_
        refine Re rfl ?_
        refine thenQ_n ?_
        exact againTo (T' := [(1, .rop [i64 s.lo, i64 s.hi, .ros (s.es.flatMap entC) s.es.length c] 0), (4, i64 ((best : Nat) : Int)), (5, .out 0 (l ++ [((k : Nat) : Int)]).length 1), (6, i64 (((k + 1) : Nat) : Int))]) (H' := [(0, outB ((l ++ [((k : Nat) : Int)]).map i64) 3 (l ++ [((k : Nat) : Int)]).length)]) (n := 1) (1 <<< s.es.length - (k + 1)) ⟨k + 1, best, l ++ [((k : Nat) : Int)], (by omega), (by first | exact bst_t hi0_1 hc1 | exact bst_l hi0_1 hc1 hc2 | exact bst_e hi0_1 hc1 hc2), rfl, rfl⟩ (by omega) (mapN [1]) ⟨eD rfl rfl, eD rfl rfl, e_ rfl rfl, eD rfl rfl, trivial⟩ ⟨rO (mapD (fun _ => rfl) _) rfl rfl, trivial⟩ rfl rfl rfl rfl (fun _ h => absurd h (Nat.not_lt_zero _))
  · obtain rfl : k = 1 <<< s.es.length := by { rw [hp1] at hc0 ⊢; rw [hp1] at hi0_0; omega }
    refine W_exit rfl ?_
    refine thenQ_x ?_
    refine thenQ_x ?_
    refine blkQ_x rfl ?_
    refine thenQ_n ?_
    refine W_seq rfl ?_
    refine W_reg rfl ?_
    refine Rv rfl rfl rfl (U_move rfl) rfl rfl ?_
    refine Rv rfl rfl rfl (U_move rfl) rfl rfl ?_
    refine Rv rfl rfl rfl (U_assign rfl) rfl rfl ?_
    refine Rv rfl rfl rfl (U_assign rfl) rfl rfl ?_
    refine Re rfl ?_
    refine thenQ_n ?_
    refine WfrO 0 (l.map i64) rfl (mapD (fun _ => rfl) _) (T' := [(2, .ros (l.map i64) l.length none), (3, i64 ((best : Nat) : Int))]) (H' := []) ⟨fO rfl, fD rfl rfl, trivial⟩ trivial ?_
    refine W_ret rfl ?_
    exact retL (rlT rfl (rlT rfl rl0)) (by first | rfl | (simp only [packA]; rw [bstQ, ← hi0_1]; first | done | rfl)) rfl
theorem fewestR_p (s : Star) (c : Option Nat) (hl : s.es.length ≤ 1000) : Pure Try.prog 39 [starA s c] (.tup [i64 (if chkS s = 0 then (((bstQ s).1 : Nat) : Int) else 0), i64 (chkS s)]) := by
  refine pure_of_body Try.func39 (c := body Try.f39) rfl (by simp [Try.ntmps39]) fun w0 Φ0 => ?_
  refine W_seq rfl ?_
  refine W_reg rfl ?_
  refine Rv rfl rfl rfl (U_boxF rfl rfl rfl) rfl rfl ?_
  refine Rv rfl rfl rfl (U_assign rfl) rfl rfl ?_
  refine Rv rfl rfl rfl (U_assign rfl) rfl rfl ?_
  refine Re rfl ?_
  refine thenQ_n ?_
  refine W_seq rfl ?_
  refine W_seq rfl ?_
  refine W_reg rfl ?_
  refine Rv rfl rfl rfl (U_load3 rfl rfl rfl rfl rfl) rfl rfl ?_
  refine Rv rfl rfl rfl (U_call rfl rfl (chkR_p s c (by omega)) rfl) rfl rfl ?_
  refine Rv rfl rfl rfl (U_neq rfl rfl) rfl rfl ?_
  refine Re rfl ?_
  refine thenQ_n ?_
  refine WcondP rfl rfl (fun hc0 => ?_) (fun hc0 => ?_)
  · refine W_seq rfl ?_
    refine W_reg rfl ?_
    refine Rv rfl rfl rfl (U_load3 rfl rfl rfl rfl rfl) rfl rfl ?_
    refine Rv rfl rfl rfl (U_call rfl rfl (chkR_p s c (by omega)) rfl) rfl rfl ?_
    refine Rv rfl rfl rfl (U_assign rfl) rfl rfl ?_
    refine Rv rfl rfl rfl (U_assign rfl) rfl rfl ?_
    refine Re rfl ?_
    refine thenQ_n ?_
    refine W_ret rfl ?_
    refine thenQ_r ?_
    exact retL (rlT rfl (rlT rfl rl0)) (by first | rfl | (simp only [packA]; simp only [if_neg hc0]; first | done | rfl) | (simp only [packA]; simp only [h0, if_true]; first | done | rfl)) rfl
  · rw [Decidable.not_not] at hc0
    have h0 : chkS s = 0 := by omega
    have hg := good_of h0
    have hn := good_12 h0
    refine W_skip rfl ?_
    refine thenQ_n ?_
    refine W_seq rfl ?_
    refine W_reg rfl ?_
    refine Rv rfl rfl rfl (U_load3 rfl rfl rfl rfl rfl) rfl rfl ?_
    refine Rv rfl rfl rfl (U_call rfl rfl (best_p92 s c (by first | exact hg | exact good_of (by assumption)) hn) rfl) rfl rfl ?_
    refine Rv rfl rfl rfl (U_move rfl) rfl rfl ?_
    refine Rv rfl rfl rfl (U_extract rfl rfl) rfl rfl ?_
    refine Rv rfl rfl rfl (U_extract rfl rfl) rfl rfl ?_
    refine Rv rfl rfl rfl (U_assign rfl) rfl rfl ?_
    refine Rv rfl rfl rfl (U_assign rfl) rfl rfl ?_
    refine Re rfl ?_
    refine thenQ_n ?_
    refine W_seq rfl ?_
    refine W_reg rfl ?_
    refine Rv rfl rfl rfl (U_move rfl) rfl rfl ?_
    refine Rv rfl rfl rfl (U_assign rfl) rfl rfl ?_
    refine Rv rfl rfl rfl (U_assign rfl) rfl rfl ?_
    refine Re rfl ?_
    refine thenQ_n ?_
    refine W_ret rfl ?_
    exact retL (rlT rfl (rlT rfl rl0)) (by first | rfl | (simp only [packA]; simp only [if_neg hc0]; first | done | rfl) | (simp only [packA]; simp only [h0, if_true]; first | done | rfl)) rfl
theorem incrL_iff (n : Int) : ∀ (l : List Int) (a : Int), incrL n a l = true ↔ (∀ x ∈ l, a ≤ x ∧ x < n) ∧ l.Pairwise (· < ·)
  | [], a => by simp [incrL]
  | x :: l, a => by
    rw [incrL, List.pairwise_cons]
    by_cases h : (decide (x < a) || decide (n ≤ x)) = true
    · rw [if_pos h]
      simp only [Bool.false_eq_true, false_iff]
      intro h2
      have := h2.1 x List.mem_cons_self
      simp at h; omega
    · rw [if_neg h, incrL_iff n l (x + 1)]
      simp at h
      constructor
      · rintro ⟨h1, h2⟩
        refine ⟨fun y hy => ?_, fun y hy => ?_, h2⟩
        · rcases List.mem_cons.1 hy with rfl | hy
          · omega
          · have := h1 y hy; omega
        · have := h1 y hy; omega
      · rintro ⟨h1, h2, h3⟩
        refine ⟨fun y hy => ?_, h3⟩
        have := h2 y hy; have := h1 y (List.mem_cons_of_mem _ hy); omega
/-- The first ones are as they should be. -/
def OkL (n : Int) (l : List Int) (i : Nat) : Prop := (∀ x ∈ l.take i, 0 ≤ x ∧ x < n) ∧ (l.take i).Pairwise (· < ·)
theorem okL_succ {n : Int} {l : List Int} {i : Nat} (hi : i < l.length) (h : OkL n l i) (hx : 0 ≤ l[i] ∧ l[i] < n) (hp : ∀ h0 : 0 < i, l[i - 1] < l[i]) : OkL n l (i + 1) := by
  obtain ⟨h1, h2⟩ := h
  unfold OkL
  rw [List.take_succ_eq_append_getElem hi]
  refine ⟨fun x hx' => ?_, List.pairwise_append.2 ⟨h2, by simp, fun x hx' y hy => ?_⟩⟩
  · rcases List.mem_append.1 hx' with h | h
    · exact h1 x h
    · rw [List.mem_singleton.1 h]; exact hx
  · rw [List.mem_singleton.1 hy]
    obtain ⟨j, hj, rfl⟩ := List.mem_iff_getElem.1 hx'
    simp only [List.length_take] at hj
    have h3 := hp (by omega)
    by_cases e : j = i - 1
    · subst e; simpa using h3
    · have := List.pairwise_iff_getElem.1 h2 j (i - 1) (by simp; omega) (by simp; omega) (by omega)
      simp only [List.getElem_take] at this ⊢
      omega
theorem okL_bad {n : Int} {l : List Int} {i : Nat} (hi : i < l.length) (h : l[i] < 0 ∨ n ≤ l[i] ∨ ∃ h0 : 0 < i, l[i] ≤ l[i - 1]) : ¬ incrL n 0 l = true := by
  rw [incrL_iff]
  rintro ⟨h1, h2⟩
  have := h1 l[i] (List.getElem_mem _)
  rcases h with h | h | ⟨h0, h⟩
  · omega
  · omega
  · have := List.pairwise_iff_getElem.1 h2 (i - 1) i (by omega) hi (by omega); omega
theorem kept_congr {f g : Nat → Bool} (es : List Ent) : ∀ k, (∀ j, j < k → f j = g j) → kept f es k = kept g es k
  | 0, _ => rfl
  | k + 1, h => by rw [kept, kept, kept_congr es k fun j hj => h j (by omega), h k (by omega)]
theorem without_congr {s : Star} {f g : Nat → Bool} (h : ∀ j, j < s.es.length → f j = g j) : withoutS s f = withoutS s g := by
  unfold withoutS; rw [kept_congr _ _ h]
theorem bits_test {k : Nat} : ∀ {l : List Int}, (∀ x ∈ l, 0 ≤ x) → (bitsOf l).testBit k = inLeft l k := by
  have : ∀ (l : List Int) (n : Nat), (∀ x ∈ l, 0 ≤ x) → (l.foldl (fun n x => n ||| 1 <<< x.toNat) n).testBit k = (n.testBit k || inLeft l k) := by
    intro l
    induction l with
    | nil => intro n _; simp [inLeft]
    | cons x l ih =>
      intro n h
      have hx := h x (by simp)
      rw [List.foldl_cons, ih _ fun y hy => h y (by simp [hy]), Nat.testBit_or]
      have h1 : (1 <<< x.toNat).testBit k = decide ((k : Int) = x) := by
        rw [Nat.shiftLeft_eq, Nat.one_mul, Nat.testBit_two_pow]
        by_cases e : (k : Int) = x
        · have : x.toNat = k := by omega
          simp [this, e]
        · have : x.toNat ≠ k := by omega
          simp [this, e]
      rw [h1, inLeft, inLeft, List.any_cons, Bool.or_assoc]
  intro l h
  have := this l 0 h
  simpa [bitsOf] using this
theorem ok_end {s : Star} {l : List Int} (h : OkL s.es.length l l.length) : incrL s.es.length 0 l = true ∧ withoutS s (bitsOf l).testBit = withoutS s (inLeft l) := by
  unfold OkL at h
  rw [List.take_length] at h
  refine ⟨(incrL_iff _ _ _).2 h, without_congr fun j _ => bits_test fun x hx => (h.1 x hx).1⟩
theorem ok_len {n : Nat} {l : List Int} (h : OkL n l l.length) : l.length ≤ n := by
  unfold OkL at h
  rw [List.take_length] at h
  have : ∀ (l : List Int) (a : Int), (∀ x ∈ l, a ≤ x ∧ x < n) → l.Pairwise (· < ·) → 0 ≤ a → a ≤ n → a + l.length ≤ n := by
    intro l
    induction l with
    | nil => intro a _ _ _ h; simpa using h
    | cons x l ih =>
      intro a h1 h2 h3 h4
      rw [List.pairwise_cons] at h2
      have hx := h1 x (by simp)
      have := ih (x + 1) (fun y hy => ⟨by have := h2.1 y hy; omega, (h1 y (by simp [hy])).2⟩) h2.2 (by omega) (by omega)
      simp only [List.length_cons]; omega
  have := this l 0 h.1 h.2 (by omega) (by omega)
  omega
theorem checkLeftR_p (s : Star) (c : Option Nat) (hl : s.es.length ≤ 1000) (l : List Int) (c2 : Option Nat) (hl2 : l.length ≤ 1000000) : Pure Try.prog 44 [starA s c, intsA l c2] (i64 (leftS s l)) := by
  refine pure_of_body Try.func44 (c := body Try.f44) rfl (by simp [Try.ntmps44]) fun w0 Φ0 => ?_
  refine W_seq rfl ?_
  refine W_reg rfl ?_
  refine Rv rfl rfl rfl (U_boxF rfl rfl rfl) rfl rfl ?_
  refine Rv rfl rfl rfl (U_assign rfl) rfl rfl ?_
  refine Re rfl ?_
  refine thenQ_n ?_
  refine W_seq rfl ?_
  refine W_seq rfl ?_
  refine W_reg rfl ?_
  refine Rv rfl rfl rfl (U_load3 rfl rfl rfl rfl rfl) rfl rfl ?_
  refine Rv rfl rfl rfl (U_call rfl rfl (chkR_p s c (by omega)) rfl) rfl rfl ?_
  refine Rv rfl rfl rfl (U_neq rfl rfl) rfl rfl ?_
  refine Re rfl ?_
  refine thenQ_n ?_
  refine WcondP rfl rfl (fun h0 => ?_) (fun h0 => ?_)
  · have hk : leftS s l = chkS s := by rw [leftS, if_neg h0]
    refine W_seq rfl ?_
    refine W_reg rfl ?_
    refine Rv rfl rfl rfl (U_load3 rfl rfl rfl rfl rfl) rfl rfl ?_
    refine Rv rfl rfl rfl (U_call rfl rfl (chkR_p s c (by omega)) rfl) rfl rfl ?_
    refine Rv rfl rfl rfl (U_assign rfl) rfl rfl ?_
    refine Re rfl ?_
    refine thenQ_n ?_
    refine W_ret rfl ?_
    refine thenQ_r ?_
    exact retL (rlT rfl rl0) (by first | rfl | (simp only [packA]; rw [hk]; first | done | rfl)) rfl
  · rw [Decidable.not_not] at h0
    have hg := good_of h0
    have hn := good_12 h0
    refine W_skip rfl ?_
    refine thenQ_n ?_
    refine W_seq rfl ?_
    refine W_seq rfl ?_
    refine W_reg rfl ?_
    refine Rv rfl rfl rfl (U_assign rfl) rfl rfl ?_
    refine Re rfl ?_
    refine thenQ_n ?_
    refine W_block rfl ?_
    refine LoopTo (T' := [(1, .ros (l.map i64) l.length c2), (2, .rop [i64 s.lo, i64 s.hi, .ros (s.es.flatMap entC) s.es.length c] 0), (5, i64 ((0 : Nat) : Int))]) (H' := []) (n := 0) rfl (fun mz_ qz_ => ∃ (i : Nat), i ≤ l.length ∧ OkL s.es.length l i ∧ mz_ = l.length - i ∧ qz_ = ⟨[(1, .ros (l.map i64) l.length c2), (2, .rop [i64 s.lo, i64 s.hi, .ros (s.es.flatMap entC) s.es.length c] 0), (5, i64 ((i : Nat) : Int))], [], 0, []⟩) ⟨0, (by omega), (⟨by simp, by simp⟩), rfl, rfl⟩ id ⟨eD rfl rfl, eD rfl rfl, eD rfl rfl, trivial⟩ trivial rfl rfl rfl rfl (fun _ _ => rfl) ?_
    rintro _ _ ⟨i, hi0_0, hi0_1, rfl, rfl⟩
    refine W_seq rfl ?_
    refine W_seq rfl ?_
    refine W_reg rfl ?_
    refine Rv rfl rfl rfl (U_move rfl) rfl rfl ?_
    refine Rv rfl rfl rfl (U_move rfl) rfl rfl ?_
    refine Rv rfl rfl rfl (U_lenOf rfl len_ros) rfl rfl ?_
    refine Rv rfl rfl rfl (U_lss rfl rfl) rfl rfl ?_
    refine Re rfl ?_
    refine thenQ_n ?_
    refine WcondP rfl rfl (fun hc1 => ?_) (fun hc1 => ?_)
    · have hci : i < l.length := by omega
      refine W_skip rfl ?_
      refine thenQ_n ?_
      refine W_seq rfl ?_
      refine W_block rfl ?_
      refine W_seq rfl ?_
      refine Wjoin ⟨[(1, .ros (l.map i64) l.length c2), (2, .rop [i64 s.lo, i64 s.hi, .ros (s.es.flatMap entC) s.es.length c] 0), (5, i64 ((i : Nat) : Int)), (47, .bool ((decide (l[i] < 0)) || ((decide (((s.es.length : Nat) : Int) ≤ l[i])) || ((decide (0 < ((i : Nat) : Int))) && (decide (l[i] ≤ l[(i - 1)]))))))], [], 0, []⟩ ?_ ?_
      · refine Wdraw rfl (by kernel_rfl) (by kernel_rfl) ?_
        refine Dv rfl rfl rfl (U_move rfl) rfl rfl ?_
        refine Dv rfl rfl rfl (U_move rfl) rfl rfl ?_
        have hx1 : i < l.length := by omega
        refine Dv rfl rfl rfl (U_indexR (j := i) rfl rfl rfl hx1) rfl rfl ?_
        refine Dv rfl rfl rfl (U_load1 rfl rfl (getM hx1)) rfl rfl ?_
        refine Dv rfl rfl rfl (U_lss rfl rfl) rfl rfl ?_
        refine Dv rfl rfl rfl (U_move rfl) rfl rfl ?_
        refine Dsplit (t := 22) rfl (fun hg2 => ?_) (fun hg2 => ?_)
        · rw [hg2]
          have hg2' : l[i] < 0 := of_decide_eq_true hg2
          refine Ds rfl rfl rfl rfl rfl ?_
          refine Ds rfl rfl rfl rfl rfl ?_
          refine Ds rfl rfl rfl rfl rfl ?_
          refine Ds rfl rfl rfl rfl rfl ?_
          refine Ds rfl rfl rfl rfl rfl ?_
          refine Ds rfl rfl rfl rfl rfl ?_
          refine Ds rfl rfl rfl rfl rfl ?_
          refine Ds rfl rfl rfl rfl rfl ?_
          refine Dv rfl rfl rfl (U_pick_t rfl rfl) rfl rfl ?_
          refine Dv rfl rfl rfl (U_move rfl) rfl rfl ?_
          refine Ds rfl rfl rfl rfl rfl ?_
          refine Ds rfl rfl rfl rfl rfl ?_
          refine Ds rfl rfl rfl rfl rfl ?_
          refine Ds rfl rfl rfl rfl rfl ?_
          refine Ds rfl rfl rfl rfl rfl ?_
          refine Ds rfl rfl rfl rfl rfl ?_
          refine Ds rfl rfl rfl rfl rfl ?_
          refine Ds rfl rfl rfl rfl rfl ?_
          refine Ds rfl rfl rfl rfl rfl ?_
          refine Ds rfl rfl rfl rfl rfl ?_
          refine Ds rfl rfl rfl rfl rfl ?_
          refine Ds rfl rfl rfl rfl rfl ?_
          refine Ds rfl rfl rfl rfl rfl ?_
          refine Ds rfl rfl rfl rfl rfl ?_
          refine Dv rfl rfl rfl (U_pick_t rfl rfl) rfl rfl ?_
          refine Dr.nil rfl ?_
          exact joinTo id ⟨eD rfl rfl, eD rfl rfl, eD rfl rfl, eD rfl rfl, trivial⟩ trivial rfl rfl rfl rfl (fun _ _ => rfl)
        · rw [hg2]
          have hg2' : ¬ (l[i] < 0) := of_decide_eq_false hg2
          refine Dv rfl rfl rfl (U_move rfl) rfl rfl ?_
          refine Dv rfl rfl rfl (U_move rfl) rfl rfl ?_
          refine Dv rfl rfl rfl (U_indexR (j := i) rfl rfl rfl hx1) rfl rfl ?_
          refine Dv rfl rfl rfl (U_load1 rfl rfl (getM hx1)) rfl rfl ?_
          refine Dv rfl rfl rfl (U_fieldAddrR rfl) rfl rfl ?_
          refine Dv rfl rfl rfl (U_load1 rfl rfl rfl) rfl rfl ?_
          refine Dv rfl rfl rfl (U_lenOf rfl len_ros) rfl rfl ?_
          refine Dv rfl rfl rfl (U_geq rfl rfl) rfl rfl ?_
          refine Dv rfl rfl rfl (U_pick_f rfl rfl) rfl rfl ?_
          refine Dv rfl rfl rfl (U_move rfl) rfl rfl ?_
          refine Dsplit (t := 32) rfl (fun hg3 => ?_) (fun hg3 => ?_)
          · rw [hg3]
            have hg3' : ((s.es.length : Nat) : Int) ≤ l[i] := of_decide_eq_true hg3
            refine Ds rfl rfl rfl rfl rfl ?_
            refine Ds rfl rfl rfl rfl rfl ?_
            refine Ds rfl rfl rfl rfl rfl ?_
            refine Ds rfl rfl rfl rfl rfl ?_
            refine Ds rfl rfl rfl rfl rfl ?_
            refine Ds rfl rfl rfl rfl rfl ?_
            refine Ds rfl rfl rfl rfl rfl ?_
            refine Ds rfl rfl rfl rfl rfl ?_
            refine Ds rfl rfl rfl rfl rfl ?_
            refine Ds rfl rfl rfl rfl rfl ?_
            refine Ds rfl rfl rfl rfl rfl ?_
            refine Ds rfl rfl rfl rfl rfl ?_
            refine Ds rfl rfl rfl rfl rfl ?_
            refine Ds rfl rfl rfl rfl rfl ?_
            refine Dv rfl rfl rfl (U_pick_t rfl rfl) rfl rfl ?_
            refine Dr.nil rfl ?_
            exact joinTo id ⟨eD rfl rfl, eD rfl rfl, eD rfl rfl, eD rfl rfl, trivial⟩ trivial rfl rfl rfl rfl (fun _ _ => rfl)
          · rw [hg3]
            have hg3' : ¬ (((s.es.length : Nat) : Int) ≤ l[i]) := of_decide_eq_false hg3
            refine Dv rfl rfl rfl (U_move rfl) rfl rfl ?_
            refine Dv rfl rfl rfl (U_gtr rfl rfl) rfl rfl ?_
            refine Dv rfl rfl rfl (U_move rfl) rfl rfl ?_
            refine Dsplit (t := 35) rfl (fun hg4 => ?_) (fun hg4 => ?_)
            · rw [hg4]
              have hg4' : 0 < ((i : Nat) : Int) := of_decide_eq_true hg4
              refine Dv rfl rfl rfl (U_move rfl) rfl rfl ?_
              refine Dv rfl rfl rfl (U_move rfl) rfl rfl ?_
              refine Dv rfl rfl rfl (U_indexR (j := i) rfl rfl rfl hx1) rfl rfl ?_
              refine Dv rfl rfl rfl (U_load1 rfl rfl (getM hx1)) rfl rfl ?_
              refine Dv rfl rfl rfl (U_move rfl) rfl rfl ?_
              refine Dv rfl rfl rfl (U_move rfl) rfl rfl ?_
              refine Dv rfl rfl rfl (U_sub rfl rfl (w64e (m := ((i - 1 : Nat) : Int)) (by omega) (by omega) (by omega))) rfl rfl ?_
              have hx5 : (i - 1) < l.length := by omega
              refine Dv rfl rfl rfl (U_indexR (j := (i - 1)) rfl rfl rfl hx5) rfl rfl ?_
              refine Dv rfl rfl rfl (U_load1 rfl rfl (getM hx5)) rfl rfl ?_
              refine Dv rfl rfl rfl (U_leq rfl rfl) rfl rfl ?_
              refine Dv rfl rfl rfl (U_pick_t rfl rfl) rfl rfl ?_
              refine Dv rfl rfl rfl (U_pick_f rfl rfl) rfl rfl ?_
              refine Dr.nil rfl ?_
              exact joinTo id ⟨eD rfl rfl, eD rfl rfl, eD rfl rfl, eD rfl rfl, trivial⟩ trivial rfl rfl rfl rfl (fun _ _ => rfl)
            · rw [hg4]
              have hg4' : ¬ (0 < ((i : Nat) : Int)) := of_decide_eq_false hg4
              refine Ds rfl rfl rfl rfl rfl ?_
              refine Ds rfl rfl rfl rfl rfl ?_
              refine Ds rfl rfl rfl rfl rfl ?_
              refine Ds rfl rfl rfl rfl rfl ?_
              refine Ds rfl rfl rfl rfl rfl ?_
              refine Ds rfl rfl rfl rfl rfl ?_
              refine Ds rfl rfl rfl rfl rfl ?_
              refine Ds rfl rfl rfl rfl rfl ?_
              refine Ds rfl rfl rfl rfl rfl ?_
              refine Ds rfl rfl rfl rfl rfl ?_
              refine Dv rfl rfl rfl (U_pick_f rfl rfl) rfl rfl ?_
              refine Dv rfl rfl rfl (U_pick_f rfl rfl) rfl rfl ?_
              refine Dr.nil rfl ?_
              exact joinTo id ⟨eD rfl rfl, eD rfl rfl, eD rfl rfl, eD rfl rfl, trivial⟩ trivial rfl rfl rfl rfl (fun _ _ => rfl)
      refine thenQ_n ?_
      refine Wcond rfl rfl (fun hc2 => ?_) (fun hc2 => ?_)
      · have hk : leftS s l = 2 := by { rw [leftS, if_pos h0, if_neg]; refine okL_bad hci ?_; simp at hc2; by_cases e1 : l[i] < 0; exact .inl e1; by_cases e2 : (s.es.length : Int) ≤ l[i]; exact .inr (.inl e2); exact .inr (.inr ⟨by omega, by omega⟩) }
        refine W_seq rfl ?_
        refine W_reg rfl ?_
        refine Rv rfl rfl rfl (U_assign rfl) rfl rfl ?_
        refine Re rfl ?_
        refine thenQ_n ?_
        refine W_ret rfl ?_
        refine blkQ_r ?_
        refine thenQ_r ?_
        refine thenQ_r ?_
        refine blkQ_r ?_
        refine thenQ_r ?_
        exact retL (rlT rfl rl0) (by first | rfl | (simp only [packA]; rw [hk]; first | done | rfl)) rfl
      · have hc2' := Bool.eq_false_iff.1 hc2
        have hok : OkL s.es.length l (i + 1) := by { simp at hc2; exact okL_succ hci hi0_1 (by omega) (fun h => by omega) }
        refine W_skip rfl ?_
        refine blkQ_n ?_
        refine thenQ_n ?_
        refine W_reg rfl ?_
        refine Rv rfl rfl rfl (U_move rfl) rfl rfl ?_
        refine Rv rfl rfl rfl (U_add rfl rfl (w64e (m := ((i + 1 : Nat) : Int)) (by omega) (by omega) (by omega))) rfl rfl ?_
        refine Rv rfl rfl rfl (U_assign rfl) rfl rfl ?_
        refine Re rfl ?_
        refine thenQ_n ?_
        exact againTo (T' := [(1, .ros (l.map i64) l.length c2), (2, .rop [i64 s.lo, i64 s.hi, .ros (s.es.flatMap entC) s.es.length c] 0), (5, i64 (((i + 1) : Nat) : Int))]) (H' := []) (n := 0) (l.length - (i + 1)) ⟨i + 1, (by omega), hok, rfl, rfl⟩ (by omega) id ⟨eD rfl rfl, eD rfl rfl, eD rfl rfl, trivial⟩ trivial rfl rfl rfl rfl (fun _ _ => rfl)
    · obtain rfl : i = l.length := by omega
      have hoe := ok_end hi0_1
      have hol := ok_len hi0_1
      have hx : ∀ x ∈ l, 0 ≤ x ∧ x < 20 := by { intro x hx; have := ((incrL_iff _ _ _).1 hoe.1).1 x hx; omega }
      have hb := bits_lt hx
      refine W_exit rfl ?_
      refine thenQ_x ?_
      refine thenQ_x ?_
      refine blkQ_x rfl ?_
      refine thenQ_n ?_
      refine W_seq rfl ?_
      refine W_seq rfl ?_
      refine Wdraw rfl (by kernel_rfl) (by kernel_rfl) ?_
      refine Dv rfl rfl rfl (U_load3 rfl rfl rfl rfl rfl) rfl rfl ?_
      refine Dv rfl rfl rfl (U_move rfl) rfl rfl ?_
      refine Dv rfl rfl rfl (U_call rfl rfl (bits_p l c2 (by omega) hx) rfl) rfl rfl ?_
      refine Dv rfl rfl rfl (U_call rfl rfl (withoutR_p s c (by omega) (bitsOf l) hb) rfl) rfl rfl ?_
      refine Dv rfl rfl rfl (U_call rfl rfl (hasR_p (withoutS s ((bitsOf l) : Nat).testBit) none (by first | exact hg | exact good_without hg _ | exact good_of (by assumption))) rfl) rfl rfl ?_
      refine Dv rfl rfl rfl (U_not rfl) rfl rfl ?_
      refine Dr.nil rfl ?_
      refine thenQ_n ?_
      refine Wcond rfl rfl (fun hc3 => ?_) (fun hc3 => ?_)
      · have hk : leftS s l = 17 := by { rw [leftS, if_pos h0, if_pos hoe.1, if_neg]; rw [← hoe.2]; simpa using hc3 }
        refine W_seq rfl ?_
        refine W_reg rfl ?_
        refine Rv rfl rfl rfl (U_assign rfl) rfl rfl ?_
        refine Re rfl ?_
        refine thenQ_n ?_
        refine W_ret rfl ?_
        refine thenQ_r ?_
        exact retL (rlT rfl rl0) (by first | rfl | (simp only [packA]; rw [hk]; first | done | rfl)) rfl
      · have hc3' := Bool.eq_false_iff.1 hc3
        have hk : leftS s l = 0 := by { rw [leftS, if_pos h0, if_pos hoe.1, if_pos]; rw [← hoe.2]; simpa using hc3 }
        refine W_skip rfl ?_
        refine thenQ_n ?_
        refine W_seq rfl ?_
        refine W_reg rfl ?_
        refine Rv rfl rfl rfl (U_assign rfl) rfl rfl ?_
        refine Re rfl ?_
        refine thenQ_n ?_
        refine W_ret rfl ?_
        exact retL (rlT rfl rl0) (by first | rfl | (simp only [packA]; rw [hk]; first | done | rfl)) rfl
/-- In how many of some bits one is 1. -/
def cntB (e : Nat) : List Int → Nat
  | [] => 0
  | x :: l => (x.toNat >>> e &&& 1) + cntB e l
theorem cntB_app (e : Nat) (x : Int) : ∀ l : List Int, cntB e (l ++ [x]) = cntB e l + (x.toNat >>> e &&& 1)
  | [] => by simp [cntB]
  | y :: l => by simp only [List.cons_append, cntB, cntB_app e x l]; omega
theorem cntB_le (e : Nat) : ∀ l : List Int, cntB e l ≤ l.length
  | [] => Nat.le_refl _
  | x :: l => by have := cntB_le e l; have := and1 (x.toNat >>> e); simp only [cntB, List.length_cons]; omega
theorem shrI {x y : Int} (h0 : 0 ≤ x) (h1 : x < 4096) (h2 : 0 ≤ y) : x.fdiv (2 ^ min y.toNat IntKind.i64.bits) = ((x.toNat >>> y.toNat : Nat) : Int) := by
  obtain ⟨a, rfl⟩ : ∃ a : Nat, x = a := ⟨x.toNat, by omega⟩
  obtain ⟨b, rfl⟩ : ∃ b : Nat, y = b := ⟨y.toNat, by omega⟩
  exact shrN (by omega)
theorem bstN_mem (s : Star) : ∀ k, ∀ x ∈ (bstN s k).2, 0 ≤ x ∧ x < k
  | 0, x, h => by simp [bstN] at h
  | k + 1, x, h => by
    rw [bstN_succ] at h; unfold stepBst at h
    split at h
    · have := bstN_mem s k x h; omega
    · split at h
      · simp only [List.mem_singleton] at h; omega
      · rcases List.mem_append.1 h with h | h
        · have := bstN_mem s k x h; omega
        · simp only [List.mem_singleton] at h; omega
def kindR (s : Star) (e : Int) : Int := if cntB e.toNat (bstQ s).2 = (bstQ s).2.length then 2 else min (cntB e.toNat (bstQ s).2 : Nat) 1
theorem kindR_p (s : Star) (c : Option Nat) (hl : s.es.length ≤ 1000) (e : Int) : Pure Try.prog 42 [starA s c, i64 e] (.tup [i64 (if kndS s e = 0 then kindR s e else 0), i64 (kndS s e)]) := by
  refine pure_of_body Try.func42 (c := body Try.f42) rfl (by simp [Try.ntmps42]) fun w0 Φ0 => ?_
  refine W_seq rfl ?_
  refine W_reg rfl ?_
  refine Rv rfl rfl rfl (U_boxF rfl rfl rfl) rfl rfl ?_
  refine Rv rfl rfl rfl (U_assign rfl) rfl rfl ?_
  refine Rv rfl rfl rfl (U_assign rfl) rfl rfl ?_
  refine Re rfl ?_
  refine thenQ_n ?_
  refine W_seq rfl ?_
  refine W_seq rfl ?_
  refine W_reg rfl ?_
  refine Rv rfl rfl rfl (U_load3 rfl rfl rfl rfl rfl) rfl rfl ?_
  refine Rv rfl rfl rfl (U_call rfl rfl (chkR_p s c (by omega)) rfl) rfl rfl ?_
  refine Rv rfl rfl rfl (U_neq rfl rfl) rfl rfl ?_
  refine Re rfl ?_
  refine thenQ_n ?_
  refine WcondP rfl rfl (fun h0 => ?_) (fun h0 => ?_)
  · have hk : kndS s e = chkS s := by rw [kndS, if_neg h0]
    have hk0 : ¬ kndS s e = 0 := by rw [hk]; exact h0
    refine W_seq rfl ?_
    refine W_reg rfl ?_
    refine Rv rfl rfl rfl (U_load3 rfl rfl rfl rfl rfl) rfl rfl ?_
    refine Rv rfl rfl rfl (U_call rfl rfl (chkR_p s c (by omega)) rfl) rfl rfl ?_
    refine Rv rfl rfl rfl (U_assign rfl) rfl rfl ?_
    refine Rv rfl rfl rfl (U_assign rfl) rfl rfl ?_
    refine Re rfl ?_
    refine thenQ_n ?_
    refine W_ret rfl ?_
    refine thenQ_r ?_
    exact retL (rlT rfl (rlT rfl rl0)) (by first | rfl | (simp only [packA]; simp only [if_neg hk0]; rw [hk]; first | done | rfl) | (simp only [packA]; rw [hk, if_pos rfl, kindR, if_pos (by omega)]; first | done | rfl) | (simp only [packA]; rw [hk, if_pos rfl, kindR, if_neg (by omega), hi0_1]; first | done | rfl)) rfl
  · rw [Decidable.not_not] at h0
    have hg := good_of h0
    have hn := good_12 h0
    refine W_skip rfl ?_
    refine thenQ_n ?_
    refine W_seq rfl ?_
    refine W_seq rfl ?_
    refine Wjoin ⟨[(1, i64 e), (2, .rop [i64 s.lo, i64 s.hi, .ros (s.es.flatMap entC) s.es.length c] 0), (23, .bool ((decide (e < 0)) || (decide (((s.es.length : Nat) : Int) ≤ e))))], [], 0, []⟩ ?_ ?_
    · refine W_reg rfl ?_
      refine Rv rfl rfl rfl (U_move rfl) rfl rfl ?_
      refine Rv rfl rfl rfl (U_lss rfl rfl) rfl rfl ?_
      refine Rv rfl rfl rfl (U_move rfl) rfl rfl ?_
      refine Rsplit (t := 17) rfl (fun hg1 => ?_) (fun hg1 => ?_)
      · rw [hg1]
        have hg1' : e < 0 := of_decide_eq_true hg1
        refine Rs rfl rfl rfl rfl rfl ?_
        refine Rs rfl rfl rfl rfl rfl ?_
        refine Rs rfl rfl rfl rfl rfl ?_
        refine Rs rfl rfl rfl rfl rfl ?_
        refine Rs rfl rfl rfl rfl rfl ?_
        refine Rv rfl rfl rfl (U_pick_t rfl rfl) rfl rfl ?_
        refine Re rfl ?_
        exact joinTo id ⟨eD rfl rfl, eD rfl rfl, eD rfl rfl, trivial⟩ trivial rfl rfl rfl rfl (fun _ _ => rfl)
      · rw [hg1]
        have hg1' : ¬ (e < 0) := of_decide_eq_false hg1
        refine Rv rfl rfl rfl (U_move rfl) rfl rfl ?_
        refine Rv rfl rfl rfl (U_fieldAddrR rfl) rfl rfl ?_
        refine Rv rfl rfl rfl (U_load1 rfl rfl rfl) rfl rfl ?_
        refine Rv rfl rfl rfl (U_lenOf rfl len_ros) rfl rfl ?_
        refine Rv rfl rfl rfl (U_geq rfl rfl) rfl rfl ?_
        refine Rv rfl rfl rfl (U_pick_f rfl rfl) rfl rfl ?_
        refine Re rfl ?_
        exact joinTo id ⟨eD rfl rfl, eD rfl rfl, eD rfl rfl, trivial⟩ trivial rfl rfl rfl rfl (fun _ _ => rfl)
    refine thenQ_n ?_
    refine Wcond rfl rfl (fun hc1 => ?_) (fun hc1 => ?_)
    · have hk : kndS s e = 2 := by { rw [kndS, if_pos h0, if_neg]; simp [inL]; simp at hc1; omega }
      have hk0 : ¬ kndS s e = 0 := by omega
      refine W_seq rfl ?_
      refine W_reg rfl ?_
      refine Rv rfl rfl rfl (U_assign rfl) rfl rfl ?_
      refine Rv rfl rfl rfl (U_assign rfl) rfl rfl ?_
      refine Re rfl ?_
      refine thenQ_n ?_
      refine W_ret rfl ?_
      refine thenQ_r ?_
      exact retL (rlT rfl (rlT rfl rl0)) (by first | rfl | (simp only [packA]; simp only [if_neg hk0]; rw [hk]; first | done | rfl) | (simp only [packA]; rw [hk, if_pos rfl, kindR, if_pos (by omega)]; first | done | rfl) | (simp only [packA]; rw [hk, if_pos rfl, kindR, if_neg (by omega), hi0_1]; first | done | rfl)) rfl
    · have hc1' := Bool.eq_false_iff.1 hc1
      have hk : kndS s e = 0 := by { rw [kndS, if_pos h0, if_pos]; simp [inL]; simp at hc1; omega }
      have he : 0 ≤ e ∧ e < 12 := by { simp at hc1; omega }
      have hp1 : 1 <<< s.es.length = 2 ^ s.es.length := by rw [Nat.shiftLeft_eq, Nat.one_mul]
      have hp2 : 2 ^ s.es.length ≤ 4096 := Nat.pow_le_pow_right (by omega) hn
      have hbm := bstN_mem s (1 <<< s.es.length)
      have hbl := bstN_len s (1 <<< s.es.length)
      rw [hp1] at hbl
      replace hbl : (bstQ s).2.length ≤ 2 ^ s.es.length := by rw [bstQ, hp1]; exact hbl
      refine W_skip rfl ?_
      refine thenQ_n ?_
      refine W_seq rfl ?_
      refine W_reg rfl ?_
      refine Rv rfl rfl rfl (U_load3 rfl rfl rfl rfl rfl) rfl rfl ?_
      refine Rv rfl rfl rfl (U_call rfl rfl (best_p92 s c (by first | exact hg | exact good_of (by assumption)) hn) rfl) rfl rfl ?_
      refine Rv rfl rfl rfl (U_move rfl) rfl rfl ?_
      refine Rv rfl rfl rfl (U_extract rfl rfl) rfl rfl ?_
      refine Rv rfl rfl rfl (U_extract rfl rfl) rfl rfl ?_
      refine Rv rfl rfl rfl (U_assign rfl) rfl rfl ?_
      refine Rv rfl rfl rfl (U_assign rfl) rfl rfl ?_
      refine Re rfl ?_
      refine thenQ_n ?_
      refine W_seq rfl ?_
      refine W_reg rfl ?_
      refine Rv rfl rfl rfl (U_assign rfl) rfl rfl ?_
      refine Re rfl ?_
      refine thenQ_n ?_
      refine W_seq rfl ?_
      refine W_seq rfl ?_
      refine W_reg rfl ?_
      refine Rv rfl rfl rfl (U_assign rfl) rfl rfl ?_
      refine Re rfl ?_
      refine thenQ_n ?_
      refine W_block rfl ?_
      refine LoopTo (T' := [(1, i64 e), (6, .ros (((bstQ s).2).map i64) (((bstQ s).2).length) none), (8, i64 ((0 : Nat) : Int)), (9, i64 ((0 : Nat) : Int))]) (H' := []) (n := 0) rfl (fun mz_ qz_ => ∃ (i : Nat) (n : Nat), i ≤ (bstQ s).2.length ∧ n = cntB e.toNat ((bstQ s).2.take i) ∧ mz_ = (bstQ s).2.length - i ∧ qz_ = ⟨[(1, i64 e), (6, .ros (((bstQ s).2).map i64) (((bstQ s).2).length) none), (8, i64 ((n : Nat) : Int)), (9, i64 ((i : Nat) : Int))], [], 0, []⟩) ⟨0, 0, (by omega), rfl, rfl, rfl⟩ id ⟨eD rfl rfl, eD rfl rfl, eD rfl rfl, eD rfl rfl, trivial⟩ trivial rfl rfl rfl rfl (fun _ _ => rfl) ?_
      rintro _ _ ⟨i, n, hi0_0, hi0_1, rfl, rfl⟩
      refine W_seq rfl ?_
      refine W_seq rfl ?_
      refine W_reg rfl ?_
      refine Rv rfl rfl rfl (U_move rfl) rfl rfl ?_
      refine Rv rfl rfl rfl (U_move rfl) rfl rfl ?_
      refine Rv rfl rfl rfl (U_lenOf rfl len_ros) rfl rfl ?_
      refine Rv rfl rfl rfl (U_lss rfl rfl) rfl rfl ?_
      refine Re rfl ?_
      refine thenQ_n ?_
      refine WcondP rfl rfl (fun hc2 => ?_) (fun hc2 => ?_)
      · have hci : i < (bstQ s).2.length := by omega
        have hbi := hbm (bstQ s).2[i] (List.getElem_mem _)
        have hbi2 : (bstQ s).2[i] < 4096 := by omega
        have ha1 := and1 ((bstQ s).2[i].toNat >>> e.toNat)
        have hcl := cntB_le e.toNat ((bstQ s).2.take i)
        have hcl2 := List.length_take_le i (bstQ s).2
        refine W_skip rfl ?_
        refine thenQ_n ?_
        refine W_seq rfl ?_
        refine W_block rfl ?_
        refine W_reg rfl ?_
        refine Rv rfl rfl rfl (U_move rfl) rfl rfl ?_
        refine Rv rfl rfl rfl (U_move rfl) rfl rfl ?_
        refine Rv rfl rfl rfl (U_move rfl) rfl rfl ?_
        have hx2 : i < ((bstQ s).2).length := by omega
        refine Rv rfl rfl rfl (U_indexR (j := i) rfl rfl rfl hx2) rfl rfl ?_
        refine Rv rfl rfl rfl (U_load1 rfl rfl (getM hx2)) rfl rfl ?_
        refine Rv rfl rfl rfl (U_move rfl) rfl rfl ?_
        refine Rv rfl rfl rfl (U_shr (c := (((bstQ s).2[i].toNat >>> e.toNat : Nat) : Int)) rfl rfl (by omega) (shrI hbi.1 hbi2 he.1)) rfl rfl ?_
        refine Rv rfl rfl rfl (U_and rfl rfl (andN (a := (bstQ s).2[i].toNat >>> e.toNat) (b := 1) (shr_lt (by omega)) (by omega))) rfl rfl ?_
        refine Rv rfl rfl rfl (U_add rfl rfl (w64e (m := ((n + (((bstQ s).2[i].toNat >>> e.toNat) &&& 1) : Nat) : Int)) (by omega) (by omega) (by omega))) rfl rfl ?_
        refine Rv rfl rfl rfl (U_assign rfl) rfl rfl ?_
        refine Re rfl ?_
        refine blkQ_n ?_
        refine thenQ_n ?_
        refine W_reg rfl ?_
        refine Rv rfl rfl rfl (U_move rfl) rfl rfl ?_
        refine Rv rfl rfl rfl (U_add rfl rfl (w64e (m := ((i + 1 : Nat) : Int)) (by omega) (by omega) (by omega))) rfl rfl ?_
        refine Rv rfl rfl rfl (U_assign rfl) rfl rfl ?_
        refine Re rfl ?_
        refine thenQ_n ?_
        exact againTo (T' := [(1, i64 e), (6, .ros (((bstQ s).2).map i64) (((bstQ s).2).length) none), (8, i64 (((n + ((bstQ s).2[i].toNat >>> e.toNat &&& 1)) : Nat) : Int)), (9, i64 (((i + 1) : Nat) : Int))]) (H' := []) (n := 0) ((bstQ s).2.length - (i + 1)) ⟨i + 1, n + ((bstQ s).2[i].toNat >>> e.toNat &&& 1), (by omega), (by rw [take_succ' hci, cntB_app, ← hi0_1]), rfl, rfl⟩ (by omega) id ⟨eD rfl rfl, eD rfl rfl, eD rfl rfl, eD rfl rfl, trivial⟩ trivial rfl rfl rfl rfl (fun _ _ => rfl)
      · obtain rfl : i = (bstQ s).2.length := by omega
        rw [List.take_length] at hi0_1
        have hcl := cntB_le e.toNat (bstQ s).2
        refine W_exit rfl ?_
        refine thenQ_x ?_
        refine thenQ_x ?_
        refine blkQ_x rfl ?_
        refine thenQ_n ?_
        refine W_seq rfl ?_
        refine W_seq rfl ?_
        refine W_reg rfl ?_
        refine Rv rfl rfl rfl (U_move rfl) rfl rfl ?_
        refine Rv rfl rfl rfl (U_move rfl) rfl rfl ?_
        refine Rv rfl rfl rfl (U_lenOf rfl len_ros) rfl rfl ?_
        refine Rv rfl rfl rfl (U_eql rfl rfl) rfl rfl ?_
        refine Re rfl ?_
        refine thenQ_n ?_
        refine WcondP rfl rfl (fun hc3 => ?_) (fun hc3 => ?_)
        · refine W_seq rfl ?_
          refine W_reg rfl ?_
          refine Rv rfl rfl rfl (U_assign rfl) rfl rfl ?_
          refine Rv rfl rfl rfl (U_assign rfl) rfl rfl ?_
          refine Re rfl ?_
          refine thenQ_n ?_
          refine W_ret rfl ?_
          refine thenQ_r ?_
          exact retL (rlT rfl (rlT rfl rl0)) (by first | rfl | (simp only [packA]; simp only [if_neg hk0]; rw [hk]; first | done | rfl) | (simp only [packA]; rw [hk, if_pos rfl, kindR, if_pos (by omega)]; first | done | rfl) | (simp only [packA]; rw [hk, if_pos rfl, kindR, if_neg (by omega), hi0_1]; first | done | rfl)) rfl
        · refine W_skip rfl ?_
          refine thenQ_n ?_
          refine W_seq rfl ?_
          refine W_reg rfl ?_
          refine Rv rfl rfl rfl (U_move rfl) rfl rfl ?_
          refine Rv rfl rfl rfl (U_min rfl rfl rfl) rfl rfl ?_
          refine Rv rfl rfl rfl (U_assign rfl) rfl rfl ?_
          refine Rv rfl rfl rfl (U_assign rfl) rfl rfl ?_
          refine Re rfl ?_
          refine thenQ_n ?_
          refine W_ret rfl ?_
          exact retL (rlT rfl (rlT rfl rl0)) (by first | rfl | (simp only [packA]; simp only [if_neg hk0]; rw [hk]; first | done | rfl) | (simp only [packA]; rw [hk, if_pos rfl, kindR, if_pos (by omega)]; first | done | rfl) | (simp only [packA]; rw [hk, if_pos rfl, kindR, if_neg (by omega), hi0_1]; first | done | rfl)) rfl
end Go.Proofs.Ytapappdgdiaijaa
end

section
/- The best lists, by the program and by the reference, are the same. -/
namespace Go.Proofs.Ytapappdgdiaijaa
open Go.AE
/-- Numbers of entries, from one on, rising. -/
def Ris (a n : Int) (l : List Int) : Prop := (∀ x ∈ l, a ≤ x ∧ x < n) ∧ l.Pairwise (· < ·)
theorem ris_cons {a n x : Int} {l : List Int} : Ris a n (x :: l) ↔ a ≤ x ∧ x < n ∧ Ris (x + 1) n l := by
  unfold Ris
  rw [List.pairwise_cons]
  constructor
  · rintro ⟨h1, h2, h3⟩
    exact ⟨(h1 x (by simp)).1, (h1 x (by simp)).2, fun y hy => ⟨by have := h2 y hy; omega, (h1 y (by simp [hy])).2⟩, h3⟩
  · rintro ⟨h1, h2, h3, h4⟩
    refine ⟨fun y hy => ?_, fun y hy => ?_, h4⟩
    · rcases List.mem_cons.1 hy with rfl | hy
      · exact ⟨h1, h2⟩
      · have := h3 y hy; omega
    · have := h3 y hy; omega
theorem ris_len {n : Int} : ∀ {l : List Int} {a : Int}, Ris a n l → a ≤ n → a + l.length ≤ n
  | [], a, _, h => by simpa using h
  | x :: l, a, h, _ => by
    obtain ⟨h1, h2, h3⟩ := ris_cons.1 h
    have := ris_len h3 (by omega)
    simp only [List.length_cons]; omega
theorem ris_len0 {n k : Nat} {l : List Int} (h : Ris 0 n l) (hn : n ≤ k) : l.length ≤ k := by
  have := ris_len h (by omega); omega
theorem picked_none {ms : List Int} {i : Nat} : ∀ k, i ≤ k → (∀ j, i ≤ j → markB ms j = false) → picked ms k = picked ms i
  | 0, h, _ => by obtain rfl : i = 0 := by { omega }; rfl
  | k + 1, h, hm => by
    by_cases e : i = k + 1
    · rw [e]
    · rw [picked_succ, hm k (by omega), picked_none k (by omega) hm]; simp
theorem picked_same {ms ms' : List Int} : ∀ k, (∀ j, j < k → markB ms j = markB ms' j) → picked ms k = picked ms' k
  | 0, _ => rfl
  | k + 1, h => by rw [picked_succ, picked_succ, h k (by omega), picked_same k fun j hj => h j (by omega)]
theorem mark_set {ms : List Int} {j : Nat} (hj : j < ms.length) (k : Nat) : markB (ms.set j 1) k = (decide (k = j) || markB ms k) := by
  unfold markB
  by_cases e : k = j
  · subst e; simp [List.getD, hj]
  · have : ¬ j = k := fun h => e h.symm
    simp only [List.getD, List.getElem?_set, this, if_false, e, decide_false, Bool.false_or]
    rfl
theorem picked_set {ms : List Int} {i j : Nat} (hij : i ≤ j) (hj : j < ms.length) (hm : ∀ k, i ≤ k → markB ms k = false) : picked (ms.set j 1) ms.length = picked ms ms.length ++ [(j : Int)] := by
  have h1 : ∀ k, j + 1 ≤ k → markB (ms.set j 1) k = false := fun k hk => by rw [mark_set hj, hm k (by omega)]; simp; omega
  rw [picked_none ms.length (i := j + 1) (by omega) h1, picked_succ, mark_set hj]
  simp only [decide_true, Bool.true_or, if_true]
  rw [picked_none (ms := ms) ms.length (i := j) (by omega) fun k hk => hm k (by omega)]
  congr 1
  exact picked_same j fun k hk => by rw [mark_set hj]; simp; omega
theorem mem_picked {ms : List Int} {j : Nat} : ∀ k, j < k → (inLeft (picked ms k) j = markB ms j)
  | k + 1, h => by
    have hno : ∀ k, j ≥ k → inLeft (picked ms k) j = false := fun k hk => by
      unfold inLeft picked
      simp only [List.any_eq_false, List.mem_map, List.mem_filter, List.mem_range]
      rintro _ ⟨m, ⟨hm, _⟩, rfl⟩
      simp; omega
    rw [picked_succ]
    by_cases e : j = k
    · subst e
      cases hb : markB ms j with
      | true => simp [inLeft]
      | false => simp [hno j (Nat.le_refl _)]
    · have ih := mem_picked (ms := ms) k (show j < k by omega)
      split
      · rw [← ih]
        unfold inLeft
        rw [List.any_append]
        have : ¬ (j : Int) = k := by omega
        simp [this]
      · exact ih
theorem ok_picked (s : Star) {ms : List Int} (hl : ms.length = s.es.length) : okB s ms = hasB (withoutS s (inLeft (picked ms ms.length))) := by
  unfold okB
  rw [without_congr fun j hj => (mem_picked (ms := ms) ms.length (by omega)).symm]
/-- What the search finds. -/
theorem mem_pick (s : Star) : ∀ (m i : Nat) (ms : List Int), ms.length = s.es.length → (∀ k, i ≤ k → markB ms k = false) → i ≤ s.es.length → ∀ l, l ∈ pickL s m i ms ↔
    ∃ t, t.length = m ∧ Ris i s.es.length t ∧ l = picked ms ms.length ++ t ∧ hasB (withoutS s (inLeft l)) = true
  | 0, i, ms, hl, hm, hi, l => by
    rw [pickL, ok_picked s hl]
    constructor
    · intro h
      split at h
      · rename_i h2
        simp only [List.mem_singleton] at h
        subst h
        exact ⟨[], rfl, ⟨by simp, by simp⟩, by simp, h2⟩
      · simp at h
    · rintro ⟨t, ht, _, rfl, h⟩
      obtain rfl : t = [] := List.eq_nil_of_length_eq_zero ht
      rw [List.append_nil] at h ⊢
      rw [if_pos h]; simp
  | m + 1, i, ms, hl, hm, hi, l => by
    rw [pickL]
    simp only [List.mem_flatMap, List.mem_range'_1]
    constructor
    · rintro ⟨j, ⟨hj1, hj2⟩, h⟩
      have hjl : j < ms.length := by omega
      have hm' : ∀ k, j + 1 ≤ k → markB (ms.set j 1) k = false := fun k hk => by rw [mark_set hjl, hm k (by omega)]; simp; omega
      obtain ⟨t, h1, h2, h3, h4⟩ := (mem_pick s m (j + 1) (ms.set j 1) (by simpa using hl) hm' (by omega) l).1 h
      rw [List.length_set, picked_set hj1 hjl hm] at h3
      exact ⟨(j : Int) :: t, by simp [h1], ris_cons.2 ⟨by omega, by omega, by exact_mod_cast h2⟩, by rw [h3]; simp, h4⟩
    · rintro ⟨t, h1, h2, h3, h4⟩
      match t, h1 with
      | x :: t, h1 =>
        obtain ⟨g1, g2, g3⟩ := ris_cons.1 h2
        have g4 := ris_len g3 (by omega)
        simp only [List.length_cons] at h1
        obtain ⟨j, rfl⟩ : ∃ j : Nat, x = j := ⟨x.toNat, by omega⟩
        have hjl : j < ms.length := by omega
        have hm' : ∀ k, j + 1 ≤ k → markB (ms.set j 1) k = false := fun k hk => by rw [mark_set hjl, hm k (by omega)]; simp; omega
        refine ⟨j, by omega, (mem_pick s m (j + 1) (ms.set j 1) (by simpa using hl) hm' (by omega) l).2 ⟨t, by omega, by exact_mod_cast g3, ?_, h4⟩⟩
        rw [List.length_set, picked_set (show i ≤ j by omega) hjl hm, h3]; simp
theorem mem_pick0 (s : Star) (m : Nat) (l : List Int) : l ∈ pickL s m 0 (List.replicate s.es.length 0) ↔ l.length = m ∧ Ris 0 s.es.length l ∧ hasB (withoutS s (inLeft l)) = true := by
  have hm : ∀ k, 0 ≤ k → markB (List.replicate s.es.length 0) k = false := fun k _ => by
    unfold markB
    by_cases h : k < s.es.length <;> simp [List.getD, List.getElem?_replicate, h]
  have hp : picked (List.replicate s.es.length (0 : Int)) (List.replicate s.es.length (0 : Int)).length = [] := by
    rw [picked_none (i := 0) _ (Nat.zero_le _) hm]; rfl
  rw [mem_pick s m 0 _ (by simp) hm (Nat.zero_le _) l, hp]
  simp only [List.nil_append]
  constructor
  · rintro ⟨t, h1, h2, rfl, h4⟩; exact ⟨h1, h2, h4⟩
  · rintro ⟨h1, h2, h3⟩; exact ⟨l, h1, h2, rfl, h3⟩
/-- A list that may be left out. -/
def May (s : Star) (l : List Int) : Prop := Ris 0 s.es.length l ∧ hasB (withoutS s (inLeft l)) = true
def BestL (s : Star) (l : List Int) : Prop := May s l ∧ ∀ l', May s l' → l.length ≤ l'.length
theorem listsL_best (s : Star) : ∀ k m, (∀ l, May s l → m ≤ l.length) → (∃ l, May s l ∧ l.length < m + k) → ∀ l, l ∈ listsL s k m ↔ BestL s l
  | 0, m, h1, ⟨l0, h2, h3⟩, _ => by have := h1 l0 h2; omega
  | k + 1, m, h1, ⟨l0, h2, h3⟩, l => by
    rw [listsL]
    split
    · rename_i hn
      have h4 : ∀ l, May s l → m + 1 ≤ l.length := fun l hl => by
        have := h1 l hl
        by_cases e : l.length = m
        · have := (mem_pick0 s m l).2 ⟨e, hl⟩
          rw [hn] at this; simp at this
        · omega
      exact listsL_best s k (m + 1) h4 ⟨l0, h2, by omega⟩ l
    · rename_i hn
      obtain ⟨l1, hl1⟩ := List.exists_mem_of_ne_nil _ hn
      obtain ⟨e1, e2⟩ := (mem_pick0 s m l1).1 hl1
      rw [mem_pick0]
      constructor
      · rintro ⟨e3, e4⟩
        exact ⟨e4, fun l' hl' => by rw [e3]; exact h1 l' hl'⟩
      · rintro ⟨e3, e4⟩
        have := e4 l1 e2; have := h1 l e3
        exact ⟨by omega, e3⟩
theorem kept_none {f : Nat → Bool} (es : List Ent) : ∀ k, (∀ j, j < k → f j = true) → kept f es k = []
  | 0, _ => rfl
  | k + 1, h => by rw [kept, kept_none es k fun j hj => h j (by omega), h k (by omega)]; rfl
theorem may_all {s : Star} (hlh : s.lo ≤ s.hi) : May s ((List.range s.es.length).map fun i : Nat => (i : Int)) := by
  refine ⟨⟨?_, ?_⟩, ?_⟩
  · intro x hx
    simp only [List.mem_map, List.mem_range] at hx
    obtain ⟨a, ha, rfl⟩ := hx; omega
  · rw [List.pairwise_map]
    exact List.pairwise_lt_range.imp fun h => by exact_mod_cast h
  · have : withoutS s (inLeft ((List.range s.es.length).map fun i : Nat => (i : Int))) = ⟨s.lo, s.hi, []⟩ := by
      unfold withoutS
      rw [kept_none]
      intro j hj
      unfold inLeft
      simp only [List.any_eq_true, List.mem_map, List.mem_range]
      exact ⟨j, ⟨j, hj, rfl⟩, by simp⟩
    rw [this]
    unfold hasB endQ bestP pairsL bestQ
    simp only [List.length_nil, List.range_zero, List.flatMap_nil, List.foldl_cons, List.foldl_nil]
    have hb : ∀ high, bnd ⟨s.lo, s.hi, []⟩ high (stepB ⟨s.lo, s.hi, []⟩ high ((-1, -1), 1) (-1, -1)).1 = (if high = true then s.hi else s.lo, 1) := fun high => by
      unfold stepB
      split <;> simp [bnd, frac_one]
    rw [hb, hb]
    simp [lessQ]; omega
theorem chk_lo {s : Star} (h : chkS s = 0) : s.lo ≤ s.hi := by
  unfold chkS at h
  split at h
  · omega
  · split at h
    · omega
    · rename_i h2
      simp [rangeB] at h2
      exact h2.1.1
theorem lists_best {s : Star} (h : chkS s = 0) (l : List Int) : l ∈ listsQ s ↔ BestL s l :=
  listsL_best s _ 0 (fun _ _ => Nat.zero_le _) ⟨_, may_all (chk_lo h), by simp⟩ l
theorem left_best {s : Star} (h : chkS s = 0) : BestL s (leftQ s) := by
  refine (lists_best h _).1 ?_
  rw [← left0 (listsQ_pos s)]; exact List.getElem_mem _

/-! ### The reference's bits -/
/-- The list of some bits. -/
def listOf (b n : Nat) : List Int := ((List.range n).filter b.testBit).map fun i : Nat => (i : Int)
theorem listOf_succ (b n : Nat) : listOf b (n + 1) = if b.testBit n = true then listOf b n ++ [(n : Int)] else listOf b n := by
  simp only [listOf, List.range_succ, List.filter_append, List.map_append]
  by_cases h : b.testBit n = true <;> simp [h]
theorem bit_val (b k : Nat) : b >>> k &&& 1 = if b.testBit k = true then 1 else 0 := by
  have h : b >>> k &&& 1 = 0 ∨ b >>> k &&& 1 = 1 := by have := and1 (b >>> k); omega
  rcases h with h | h
  · rw [h, if_neg]; rw [Nat.testBit, Nat.and_comm, h]; simp
  · rw [h, if_pos]; rw [Nat.testBit, Nat.and_comm, h]; simp
theorem pop_len (b : Nat) : ∀ n, popN b n = (listOf b n).length
  | 0 => rfl
  | n + 1 => by
    rw [popN, listOf_succ, pop_len b n, bit_val]
    split <;> simp
theorem listOf_ris (b n : Nat) : Ris 0 n (listOf b n) := by
  refine ⟨?_, ?_⟩
  · intro x hx
    simp only [listOf, List.mem_map, List.mem_filter, List.mem_range] at hx
    obtain ⟨a, ⟨ha, _⟩, rfl⟩ := hx; omega
  · unfold listOf
    rw [List.pairwise_map]
    exact (List.pairwise_lt_range.sublist List.filter_sublist).imp fun h => by exact_mod_cast h
theorem in_listOf {b n j : Nat} (h : j < n) : inLeft (listOf b n) j = b.testBit j := by
  rw [Bool.eq_iff_iff]
  unfold inLeft listOf
  simp only [List.any_eq_true, List.mem_map, List.mem_filter, List.mem_range]
  constructor
  · rintro ⟨_, ⟨a, ⟨_, ha⟩, rfl⟩, h2⟩
    have : j = a := by have := of_decide_eq_true h2; exact_mod_cast this
    rw [this]; exact ha
  · intro hb; exact ⟨j, ⟨j, ⟨h, hb⟩, rfl⟩, by simp⟩
theorem bits_lt' {n : Nat} {l : List Int} (h : Ris 0 n l) : bitsOf l < 2 ^ n := by
  refine Nat.lt_pow_two_of_testBit _ fun i hi => ?_
  rw [bits_test fun x hx => (h.1 x hx).1]
  unfold inLeft
  simp only [List.any_eq_false]
  intro x hx
  have := h.1 x hx
  simp; omega
/-- The list of the bits of a list is that list. -/
theorem ris_ext : ∀ {l m : List Int} {a n : Int}, Ris a n l → Ris a n m → (∀ x, x ∈ l ↔ x ∈ m) → l = m
  | [], m, a, n, _, _, h => (List.eq_nil_iff_forall_not_mem.2 fun x hx => by simpa using (h x).2 hx).symm
  | x :: l, [], a, n, _, _, h => by have := (h x).1 (by simp); simp at this
  | x :: l, y :: m, a, n, hl, hm, h => by
    obtain ⟨h1, h2, h3⟩ := ris_cons.1 hl
    obtain ⟨g1, g2, g3⟩ := ris_cons.1 hm
    have hx : x = y ∨ y + 1 ≤ x := by
      rcases List.mem_cons.1 ((h x).1 (by simp)) with e | e
      · exact .inl e
      · exact .inr (g3.1 x e).1
    have hy : y = x ∨ x + 1 ≤ y := by
      rcases List.mem_cons.1 ((h y).2 (by simp)) with e | e
      · exact .inl e
      · exact .inr (h3.1 y e).1
    obtain rfl : x = y := by omega
    congr 1
    refine ris_ext h3 g3 fun z => ?_
    constructor
    · intro hz
      have := h3.1 z hz
      rcases List.mem_cons.1 ((h z).1 (by simp [hz])) with e | e
      · omega
      · exact e
    · intro hz
      have := g3.1 z hz
      rcases List.mem_cons.1 ((h z).2 (by simp [hz])) with e | e
      · omega
      · exact e
theorem in_iff {l : List Int} {j : Nat} : inLeft l j = true ↔ (j : Int) ∈ l := by
  unfold inLeft
  simp
theorem list_bits {n : Nat} {l : List Int} (h : Ris 0 n l) : listOf (bitsOf l) n = l := by
  refine ris_ext (listOf_ris _ _) h fun x => ?_
  constructor
  · intro hx
    have hr := (listOf_ris (bitsOf l) n).1 x hx
    obtain ⟨j, rfl⟩ : ∃ j : Nat, x = j := ⟨x.toNat, by omega⟩
    have := in_iff.2 hx
    rw [in_listOf (by omega), bits_test fun x hx => (h.1 x hx).1] at this
    exact in_iff.1 this
  · intro hx
    have hr := h.1 x hx
    obtain ⟨j, rfl⟩ : ∃ j : Nat, x = j := ⟨x.toNat, by omega⟩
    refine in_iff.1 ?_
    rw [in_listOf (by omega), bits_test fun x hx => (h.1 x hx).1]
    exact in_iff.2 hx
theorem may_bits (s : Star) (b : Nat) : May s (listOf b s.es.length) ↔ hasB (withoutS s b.testBit) = true := by
  unfold May
  rw [without_congr fun j hj => (in_listOf hj)]
  exact ⟨fun h => h.2, fun h => ⟨listOf_ris _ _, h⟩⟩
theorem pop20 {b n : Nat} (hn : n ≤ 20) (hb : b < 2 ^ n) : popN b 20 = (listOf b n).length := by
  rw [← pop_len]
  exact popN_end (by rw [Nat.shiftRight_eq_div_pow]; exact Nat.div_eq_of_lt hb) 20 hn
/-- What the reference's search finds. -/
theorem bstN_inv (s : Star) : ∀ k, (∀ b, b < k → hasB (withoutS s b.testBit) = true → (bstN s k).1 ≤ popN b 20) ∧ (bstN s k).1 ≤ s.es.length ∧
    ∀ x, x ∈ (bstN s k).2 ↔ ∃ b : Nat, x = b ∧ b < k ∧ hasB (withoutS s b.testBit) = true ∧ popN b 20 = (bstN s k).1
  | 0 => by simp [bstN]
  | k + 1 => by
    obtain ⟨h1, h2, h3⟩ := bstN_inv s k
    rw [bstN_succ]
    unfold stepBst
    split
    · rename_i h
      have hk : hasB (withoutS s k.testBit) = true → (bstN s k).1 < popN k 20 := fun e => by simpa [e] using h
      refine ⟨fun b hb ho => ?_, h2, fun x => ?_⟩
      · by_cases e : b = k
        · subst e; have := hk ho; omega
        · exact h1 b (by omega) ho
      · rw [h3]
        constructor
        · rintro ⟨b, e1, e2, e3⟩; exact ⟨b, e1, by omega, e3⟩
        · rintro ⟨b, e1, e2, e3, e4⟩
          have : b ≠ k := fun e => by subst e; have := hk e3; omega
          exact ⟨b, e1, by omega, e3, e4⟩
    · rename_i h
      have hk : popN k 20 ≤ (bstN s k).1 ∧ hasB (withoutS s k.testBit) = true := by simpa using h
      split
      · rename_i h4
        refine ⟨fun b hb ho => ?_, by simp only; omega, fun x => ?_⟩
        · simp only
          by_cases e : b = k
          · subst e; exact Nat.le_refl _
          · have := h1 b (by omega) ho; omega
        · simp only [List.mem_singleton]
          constructor
          · rintro rfl; exact ⟨k, rfl, by omega, hk.2, rfl⟩
          · rintro ⟨b, e1, e2, e3, e4⟩
            by_cases e : b = k
            · subst e; exact e1
            · have := h1 b (by omega) e3; omega
      · rename_i h4
        have heq : popN k 20 = (bstN s k).1 := by omega
        refine ⟨fun b hb ho => ?_, h2, fun x => ?_⟩
        · simp only
          by_cases e : b = k
          · subst e; omega
          · exact h1 b (by omega) ho
        · simp only [List.mem_append, List.mem_singleton, h3]
          constructor
          · rintro (⟨b, e1, e2, e3⟩ | rfl)
            · exact ⟨b, e1, by omega, e3⟩
            · exact ⟨k, rfl, by omega, hk.2, heq⟩
          · rintro ⟨b, e1, e2, e3, e4⟩
            by_cases e : b = k
            · subst e; exact .inr e1
            · exact .inl ⟨b, e1, by omega, e3, e4⟩
theorem fewest_same {s : Star} (h : chkS s = 0) : (bstQ s).1 = fewQ s := by
  have hn := good_12 h
  obtain ⟨h1, h2, h3⟩ := bstN_inv s (1 <<< s.es.length)
  have hp : 1 <<< s.es.length = 2 ^ s.es.length := by rw [Nat.shiftLeft_eq, Nat.one_mul]
  obtain ⟨hm, hb⟩ := left_best h
  have e1 : popN (bitsOf (leftQ s)) 20 = fewQ s := by
    rw [pop20 (n := s.es.length) (by omega) (bits_lt' hm.1), list_bits hm.1]; rfl
  have e2 := h1 (bitsOf (leftQ s)) (by rw [hp]; exact bits_lt' hm.1) (by rw [← may_bits, list_bits hm.1]; exact hm)
  have e3 : fewQ s ≤ (bstQ s).1 := by
    by_cases hx : (bstQ s).2 = []
    · -- nothing is found: all would be
      have ha := may_all (chk_lo h)
      have := h1 (bitsOf ((List.range s.es.length).map fun i : Nat => (i : Int))) (by rw [hp]; exact bits_lt' ha.1) (by rw [← may_bits, list_bits ha.1]; exact ha)
      rw [pop20 (n := s.es.length) (by omega) (bits_lt' ha.1), list_bits ha.1] at this
      simp only [List.length_map, List.length_range] at this
      by_cases e : (bstN s (1 <<< s.es.length)).1 = s.es.length
      · have hmem := (h3 ((bitsOf ((List.range s.es.length).map fun i : Nat => (i : Int)) : Nat) : Int)).2 ⟨_, rfl, by rw [hp]; exact bits_lt' ha.1, by rw [← may_bits, list_bits ha.1]; exact ha, by
          rw [pop20 (n := s.es.length) (by omega) (bits_lt' ha.1), list_bits ha.1, e]; simp⟩
        unfold bstQ at hx; rw [hx] at hmem; simp at hmem
      · exfalso
        have hall : ∀ k, (bstN s k).2 = [] → (bstN s k).1 = s.es.length := by
          intro k
          induction k with
          | zero => intro _; rfl
          | succ k ih =>
            rw [bstN_succ]; unfold stepBst
            split
            · exact ih
            · split
              · intro hh; simp at hh
              · intro hh; simp at hh
        exact e (hall _ hx)
    · obtain ⟨x, hx⟩ := List.exists_mem_of_ne_nil _ hx
      obtain ⟨b, e4, e5, e6, e7⟩ := (h3 x).1 hx
      rw [hp] at e5
      have := hb _ ((may_bits s b).2 e6)
      rw [← pop20 (by omega) e5, e7] at this
      exact this
  unfold bstQ at e3 ⊢
  omega
theorem mem_bst {s : Star} (h : chkS s = 0) (x : Int) : x ∈ (bstQ s).2 ↔ ∃ b : Nat, x = b ∧ b < 2 ^ s.es.length ∧ BestL s (listOf b s.es.length) := by
  have hn := good_12 h
  obtain ⟨h1, h2, h3⟩ := bstN_inv s (1 <<< s.es.length)
  have hp : 1 <<< s.es.length = 2 ^ s.es.length := by rw [Nat.shiftLeft_eq, Nat.one_mul]
  have hf := fewest_same h
  obtain ⟨hm, hb⟩ := left_best h
  unfold bstQ at hf ⊢
  rw [h3]
  constructor
  · rintro ⟨b, e1, e2, e3, e4⟩
    rw [hp] at e2
    refine ⟨b, e1, e2, (may_bits s b).2 e3, fun l' hl' => ?_⟩
    rw [← pop20 (by omega) e2, e4, hf]
    exact hb l' hl'
  · rintro ⟨b, e1, e2, e3, e4⟩
    refine ⟨b, e1, by rw [hp]; exact e2, (may_bits s b).1 e3, ?_⟩
    rw [pop20 (by omega) e2, hf]
    have := e4 _ hm; have := hb _ e3
    unfold fewQ; omega
theorem cnt_all {e : Nat} : ∀ {l : List Int}, cntB e l = l.length ↔ ∀ x ∈ l, x.toNat.testBit e = true
  | [] => by simp [cntB]
  | x :: l => by
    have h1 := cntB_le e l
    rw [cntB, bit_val, List.forall_mem_cons, ← cnt_all (l := l), List.length_cons]
    split
    · rename_i h; simp only [h, true_and]; omega
    · rename_i h; exact ⟨fun k => absurd k (by omega), fun k => absurd k.1 h⟩
theorem cnt_none {e : Nat} : ∀ {l : List Int}, cntB e l = 0 ↔ ∀ x ∈ l, ¬ x.toNat.testBit e = true
  | [] => by simp [cntB]
  | x :: l => by
    rw [cntB, bit_val, List.forall_mem_cons, ← cnt_none (l := l)]
    split
    · rename_i h; exact ⟨fun k => absurd k (by omega), fun k => absurd h k.1⟩
    · rename_i h; exact ⟨fun k => ⟨h, by omega⟩, fun k => by omega⟩
/-- Some of the best lists, and some of the best bits, have the entry; all have. -/
theorem kind_same {s : Star} (h : chkS s = 0) {e : Int} (he : kndS s e = 0) : kindR s e = kindQ s e := by
  have hn := good_12 h
  have he' : 0 ≤ e ∧ e < s.es.length := by
    unfold kndS at he
    rw [if_pos h] at he
    split at he
    · rename_i h2; simp [inL] at h2; omega
    · omega
  obtain ⟨j, rfl⟩ : ∃ j : Nat, e = j := ⟨e.toNat, by omega⟩
  have hj : j < s.es.length := by omega
  have hbit : ∀ (P : Bool → Prop), (∀ x ∈ (bstQ s).2, P (x.toNat.testBit j)) ↔ ∀ l ∈ listsQ s, P (inLeft l j) := by
    intro P
    constructor
    · intro hx l hl
      have hbl := (lists_best h l).1 hl
      have := hx ((bitsOf l : Nat) : Int) ((mem_bst h _).2 ⟨_, rfl, bits_lt' hbl.1.1, by rw [list_bits hbl.1.1]; exact hbl⟩)
      rw [Int.toNat_natCast, bits_test fun x hx => (hbl.1.1.1 x hx).1] at this
      exact this
    · intro hl x hx
      obtain ⟨b, rfl, hb, hbl⟩ := (mem_bst h x).1 hx
      have := hl _ ((lists_best h _).2 hbl)
      rw [in_listOf hj] at this
      exact this
  have h1 : cntB j (bstQ s).2 = (bstQ s).2.length ↔ (listsQ s).length - inC j (listsQ s) = 0 := by
    rw [cnt_all, hbit (· = true)]
    have hle := List.countP_le_length (p := fun x : List Int => x.any fun y => decide ((j : Int) = y)) (l := listsQ s)
    have : (listsQ s).length - inC j (listsQ s) = 0 ↔ inC j (listsQ s) = (listsQ s).length := by unfold inC; omega
    rw [this]; unfold inC
    exact List.countP_eq_length.symm
  have h2 : cntB j (bstQ s).2 = 0 ↔ ¬ 0 < inC j (listsQ s) := by
    rw [cnt_none, hbit (fun b => ¬ b = true)]
    have : ¬ 0 < inC j (listsQ s) ↔ inC j (listsQ s) = 0 := by omega
    rw [this]; unfold inC
    exact List.countP_eq_zero.symm
  unfold kindR kindQ
  rw [Int.toNat_natCast]
  by_cases a : cntB j (bstQ s).2 = (bstQ s).2.length
  · rw [if_pos a, if_pos (h1.1 a)]
  · rw [if_neg a, if_neg (fun k => a (h1.2 k))]
    by_cases b : cntB j (bstQ s).2 = 0
    · rw [if_neg (h2.1 b), b]; rfl
    · rw [if_pos (by have := fun k => b (h2.2 k); omega)]; omega
theorem left_ok {s : Star} (h : chkS s = 0) : leftS s (leftQ s) = 0 := by
  obtain ⟨⟨h1, h2⟩, _⟩ := left_best h
  rw [leftS, if_pos h, if_pos ((incrL_iff _ _ _).2 h1), if_pos h2]
end Go.Proofs.Ytapappdgdiaijaa
end

section
/- DriftLefts. -/
namespace Go.Proofs.Ytapappdgdiaijaa
set_option maxRecDepth 20000
open Go.AE
theorem fewestS_p (s : Star) (c : Option Nat) (hl : s.es.length ≤ 1000) : Pure Try.prog 39 [starA s c] (.tup [i64 (if chkS s = 0 then (fewQ s : Int) else 0), i64 (chkS s)]) := by
  have h := fewestR_p s c hl
  by_cases h0 : chkS s = 0
  · rw [if_pos h0] at h ⊢; rw [fewest_same h0] at h; exact h
  · rw [if_neg h0] at h ⊢; exact h
theorem kindS_p (s : Star) (c : Option Nat) (hl : s.es.length ≤ 1000) (e : Int) : Pure Try.prog 42 [starA s c, i64 e] (.tup [i64 (if kndS s e = 0 then kindQ s e else 0), i64 (kndS s e)]) := by
  have h := kindR_p s c hl e
  by_cases h0 : kndS s e = 0
  · have h1 : chkS s = 0 := by
      by_cases h2 : chkS s = 0
      · exact h2
      · rw [kndS, if_neg h2] at h0; exact absurd h0 h2
    rw [if_pos h0] at h ⊢; rw [kind_same h1 h0] at h; exact h
  · rw [if_neg h0] at h ⊢; exact h
theorem driftLefts_p (s : Star) (c c2 : Option Nat) (l : List Int) (e : Int) : Pure Try.prog 7 [starA s c, intsA l c2, i64 e] (.bool true) := by
  refine pure_of_body Try.func7 (c := body Try.f7) rfl (by simp [Try.ntmps7]) fun w0 Φ0 => ?_
  refine W_seq rfl ?_
  refine W_reg rfl ?_
  refine Rv rfl rfl rfl (U_boxF rfl rfl rfl) rfl rfl ?_
  refine Rv rfl rfl rfl (U_assign rfl) rfl rfl ?_
  refine Re rfl ?_
  refine thenQ_n ?_
  refine W_seq rfl ?_
  refine W_seq rfl ?_
  refine Wjoin ⟨[(1, .ros (l.map i64) l.length c2), (2, i64 e), (3, .rop [i64 s.lo, i64 s.hi, .ros (s.es.flatMap entC) s.es.length c] 0), (34, .bool ((decide (20 < s.es.length)) || ((decide (20 < ((l.length : Nat) : Int))) || ((decide ((chkS s) = 0)) && (decide (9 < ((s.es.length : Nat) : Int)))))))], [], 0, []⟩ ?_ ?_
  · refine W_reg rfl ?_
    refine Rv rfl rfl rfl (U_load3 rfl rfl rfl rfl rfl) rfl rfl ?_
    refine Rv rfl rfl rfl (U_call rfl rfl (great_p s c) rfl) rfl rfl ?_
    refine Rv rfl rfl rfl (U_move rfl) rfl rfl ?_
    refine Rsplit (t := 19) rfl (fun hg1 => ?_) (fun hg1 => ?_)
    · rw [hg1]
      have hg1' : 20 < s.es.length := of_decide_eq_true hg1
      refine Rs rfl rfl rfl rfl rfl ?_
      refine Rs rfl rfl rfl rfl rfl ?_
      refine Rs rfl rfl rfl rfl rfl ?_
      refine Rv rfl rfl rfl (U_pick_t rfl rfl) rfl rfl ?_
      refine Rv rfl rfl rfl (U_move rfl) rfl rfl ?_
      refine Rs rfl rfl rfl rfl rfl ?_
      refine Rs rfl rfl rfl rfl rfl ?_
      refine Rs rfl rfl rfl rfl rfl ?_
      refine Rs rfl rfl rfl rfl rfl ?_
      refine Rs rfl rfl rfl rfl rfl ?_
      refine Rs rfl rfl rfl rfl rfl ?_
      refine Rs rfl rfl rfl rfl rfl ?_
      refine Rs rfl rfl rfl rfl rfl ?_
      refine Rs rfl rfl rfl rfl rfl ?_
      refine Rv rfl rfl rfl (U_pick_t rfl rfl) rfl rfl ?_
      refine Re rfl ?_
      exact joinTo id ⟨eD rfl rfl, eD rfl rfl, eD rfl rfl, eD rfl rfl, trivial⟩ trivial rfl rfl rfl rfl (fun _ _ => rfl)
    · rw [hg1]
      have hg1' : ¬ (20 < s.es.length) := of_decide_eq_false hg1
      refine Rv rfl rfl rfl (U_move rfl) rfl rfl ?_
      refine Rv rfl rfl rfl (U_lenOf rfl len_ros) rfl rfl ?_
      refine Rv rfl rfl rfl (U_gtr rfl rfl) rfl rfl ?_
      refine Rv rfl rfl rfl (U_pick_f rfl rfl) rfl rfl ?_
      refine Rv rfl rfl rfl (U_move rfl) rfl rfl ?_
      refine Rsplit (t := 24) rfl (fun hg2 => ?_) (fun hg2 => ?_)
      · rw [hg2]
        have hg2' : 20 < ((l.length : Nat) : Int) := of_decide_eq_true hg2
        refine Rs rfl rfl rfl rfl rfl ?_
        refine Rs rfl rfl rfl rfl rfl ?_
        refine Rs rfl rfl rfl rfl rfl ?_
        refine Rs rfl rfl rfl rfl rfl ?_
        refine Rs rfl rfl rfl rfl rfl ?_
        refine Rs rfl rfl rfl rfl rfl ?_
        refine Rs rfl rfl rfl rfl rfl ?_
        refine Rs rfl rfl rfl rfl rfl ?_
        refine Rs rfl rfl rfl rfl rfl ?_
        refine Rv rfl rfl rfl (U_pick_t rfl rfl) rfl rfl ?_
        refine Re rfl ?_
        exact joinTo id ⟨eD rfl rfl, eD rfl rfl, eD rfl rfl, eD rfl rfl, trivial⟩ trivial rfl rfl rfl rfl (fun _ _ => rfl)
      · rw [hg2]
        have hg2' : ¬ (20 < ((l.length : Nat) : Int)) := of_decide_eq_false hg2
        refine Rv rfl rfl rfl (U_load3 rfl rfl rfl rfl rfl) rfl rfl ?_
        refine Rv rfl rfl rfl (U_call rfl rfl (chkR_p s c (by omega)) rfl) rfl rfl ?_
        refine Rv rfl rfl rfl (U_eql rfl rfl) rfl rfl ?_
        refine Rv rfl rfl rfl (U_move rfl) rfl rfl ?_
        refine Rsplit (t := 28) rfl (fun hg3 => ?_) (fun hg3 => ?_)
        · rw [hg3]
          have hg3' : (chkS s) = 0 := of_decide_eq_true hg3
          refine Rv rfl rfl rfl (U_fieldAddrR rfl) rfl rfl ?_
          refine Rv rfl rfl rfl (U_load1 rfl rfl rfl) rfl rfl ?_
          refine Rv rfl rfl rfl (U_lenOf rfl len_ros) rfl rfl ?_
          refine Rv rfl rfl rfl (U_gtr rfl rfl) rfl rfl ?_
          refine Rv rfl rfl rfl (U_pick_t rfl rfl) rfl rfl ?_
          refine Rv rfl rfl rfl (U_pick_f rfl rfl) rfl rfl ?_
          refine Re rfl ?_
          exact joinTo id ⟨eD rfl rfl, eD rfl rfl, eD rfl rfl, eD rfl rfl, trivial⟩ trivial rfl rfl rfl rfl (fun _ _ => rfl)
        · rw [hg3]
          have hg3' : ¬ ((chkS s) = 0) := of_decide_eq_false hg3
          refine Rs rfl rfl rfl rfl rfl ?_
          refine Rs rfl rfl rfl rfl rfl ?_
          refine Rs rfl rfl rfl rfl rfl ?_
          refine Rs rfl rfl rfl rfl rfl ?_
          refine Rv rfl rfl rfl (U_pick_f rfl rfl) rfl rfl ?_
          refine Rv rfl rfl rfl (U_pick_f rfl rfl) rfl rfl ?_
          refine Re rfl ?_
          exact joinTo id ⟨eD rfl rfl, eD rfl rfl, eD rfl rfl, eD rfl rfl, trivial⟩ trivial rfl rfl rfl rfl (fun _ _ => rfl)
  refine thenQ_n ?_
  refine Wcond rfl rfl (fun hc0 => ?_) (fun hc0 => ?_)
  · refine W_seq rfl ?_
    refine W_reg rfl ?_
    refine Rv rfl rfl rfl (U_call rfl rfl (works_p) rfl) rfl rfl ?_
    refine Rv rfl rfl rfl (U_assign rfl) rfl rfl ?_
    refine Re rfl ?_
    refine thenQ_n ?_
    refine W_ret rfl ?_
    refine thenQ_r ?_
    exact retL (rlT rfl rl0) rfl rfl
  · have hc0' := Bool.eq_false_iff.1 hc0
    have hl : s.es.length ≤ 20 ∧ l.length ≤ 20 := by { simp at hc0; omega }
    have hl1 := hl.1
    have hl2 := hl.2
    refine W_skip rfl ?_
    refine thenQ_n ?_
    refine W_seq rfl ?_
    refine W_reg rfl ?_
    refine Rv rfl rfl rfl (U_load3 rfl rfl rfl rfl rfl) rfl rfl ?_
    refine Rv rfl rfl rfl (U_call rfl rfl (fewest_p s c (by omega)) rfl) rfl rfl ?_
    refine Rv rfl rfl rfl (U_move rfl) rfl rfl ?_
    refine Rv rfl rfl rfl (U_extract rfl rfl) rfl rfl ?_
    refine Rv rfl rfl rfl (U_extract rfl rfl) rfl rfl ?_
    refine Rv rfl rfl rfl (U_assign rfl) rfl rfl ?_
    refine Rv rfl rfl rfl (U_assign rfl) rfl rfl ?_
    refine Re rfl ?_
    refine thenQ_n ?_
    refine W_seq rfl ?_
    refine W_reg rfl ?_
    refine Rv rfl rfl rfl (U_load3 rfl rfl rfl rfl rfl) rfl rfl ?_
    refine Rv rfl rfl rfl (U_call rfl rfl (fewestS_p s c (by omega)) rfl) rfl rfl ?_
    refine Rv rfl rfl rfl (U_move rfl) rfl rfl ?_
    refine Rv rfl rfl rfl (U_extract rfl rfl) rfl rfl ?_
    refine Rv rfl rfl rfl (U_extract rfl rfl) rfl rfl ?_
    refine Rv rfl rfl rfl (U_assign rfl) rfl rfl ?_
    refine Rv rfl rfl rfl (U_assign rfl) rfl rfl ?_
    refine Re rfl ?_
    refine thenQ_n ?_
    refine W_seq rfl ?_
    refine W_reg rfl ?_
    refine Rv rfl rfl rfl (U_load3 rfl rfl rfl rfl rfl) rfl rfl ?_
    refine Rv rfl rfl rfl (U_call rfl rfl (leftOf_p s c (by omega)) rfl) rfl rfl ?_
    refine Rv rfl rfl rfl (U_move rfl) rfl rfl ?_
    refine Rv rfl rfl rfl (U_extract rfl rfl) rfl rfl ?_
    refine Rv rfl rfl rfl (U_extract rfl rfl) rfl rfl ?_
    refine Rv rfl rfl rfl (U_assign rfl) rfl rfl ?_
    refine Rv rfl rfl rfl (U_assign rfl) rfl rfl ?_
    refine Re rfl ?_
    refine thenQ_n ?_
    refine W_seq rfl ?_
    refine W_reg rfl ?_
    refine Rv rfl rfl rfl (U_load3 rfl rfl rfl rfl rfl) rfl rfl ?_
    refine Rv rfl rfl rfl (U_move rfl) rfl rfl ?_
    refine Rv rfl rfl rfl (U_call rfl rfl (kind_p s c (by omega) e) rfl) rfl rfl ?_
    refine Rv rfl rfl rfl (U_move rfl) rfl rfl ?_
    refine Rv rfl rfl rfl (U_extract rfl rfl) rfl rfl ?_
    refine Rv rfl rfl rfl (U_extract rfl rfl) rfl rfl ?_
    refine Rv rfl rfl rfl (U_assign rfl) rfl rfl ?_
    refine Rv rfl rfl rfl (U_assign rfl) rfl rfl ?_
    refine Re rfl ?_
    refine thenQ_n ?_
    refine W_seq rfl ?_
    refine W_reg rfl ?_
    refine Rv rfl rfl rfl (U_load3 rfl rfl rfl rfl rfl) rfl rfl ?_
    refine Rv rfl rfl rfl (U_move rfl) rfl rfl ?_
    refine Rv rfl rfl rfl (U_call rfl rfl (kindS_p s c (by omega) e) rfl) rfl rfl ?_
    refine Rv rfl rfl rfl (U_move rfl) rfl rfl ?_
    refine Rv rfl rfl rfl (U_extract rfl rfl) rfl rfl ?_
    refine Rv rfl rfl rfl (U_extract rfl rfl) rfl rfl ?_
    refine Rv rfl rfl rfl (U_assign rfl) rfl rfl ?_
    refine Rv rfl rfl rfl (U_assign rfl) rfl rfl ?_
    refine Re rfl ?_
    refine thenQ_n ?_
    refine W_seq rfl ?_
    refine W_seq rfl ?_
    refine Wdraw rfl (by kernel_rfl) (by kernel_rfl) ?_
    refine Dv rfl rfl rfl (U_move rfl) rfl rfl ?_
    refine Dv rfl rfl rfl (U_move rfl) rfl rfl ?_
    refine Dv rfl rfl rfl (U_neqS rfl rfl) rfl rfl ?_
    refine Dv rfl rfl rfl (U_move rfl) rfl rfl ?_
    refine Dv rfl rfl rfl (U_move rfl) rfl rfl ?_
    refine Dv rfl rfl rfl (U_move rfl) rfl rfl ?_
    refine Dv rfl rfl rfl (U_neqS rfl rfl) rfl rfl ?_
    refine Dv rfl rfl rfl (U_pick_f rfl rfl) rfl rfl ?_
    refine Dv rfl rfl rfl (U_move rfl) rfl rfl ?_
    refine Dv rfl rfl rfl (U_move rfl) rfl rfl ?_
    refine Dv rfl rfl rfl (U_move rfl) rfl rfl ?_
    refine Dv rfl rfl rfl (U_neqS rfl rfl) rfl rfl ?_
    refine Dv rfl rfl rfl (U_pick_f rfl rfl) rfl rfl ?_
    refine Dv rfl rfl rfl (U_move rfl) rfl rfl ?_
    refine Dv rfl rfl rfl (U_move rfl) rfl rfl ?_
    refine Dv rfl rfl rfl (U_move rfl) rfl rfl ?_
    refine Dv rfl rfl rfl (U_neqS rfl rfl) rfl rfl ?_
    refine Dv rfl rfl rfl (U_pick_f rfl rfl) rfl rfl ?_
    refine Dv rfl rfl rfl (U_move rfl) rfl rfl ?_
    refine Dv rfl rfl rfl (U_move rfl) rfl rfl ?_
    refine Dv rfl rfl rfl (U_move rfl) rfl rfl ?_
    refine Dv rfl rfl rfl (U_neqS rfl rfl) rfl rfl ?_
    refine Dv rfl rfl rfl (U_pick_f rfl rfl) rfl rfl ?_
    refine Dv rfl rfl rfl (U_move rfl) rfl rfl ?_
    refine Dv rfl rfl rfl (U_load3 rfl rfl rfl rfl rfl) rfl rfl ?_
    refine Dv rfl rfl rfl (U_move rfl) rfl rfl ?_
    refine Dv rfl rfl rfl (U_call rfl rfl (checkLeft_p s c (by omega) l c2 (by omega)) rfl) rfl rfl ?_
    refine Dv rfl rfl rfl (U_load3 rfl rfl rfl rfl rfl) rfl rfl ?_
    refine Dv rfl rfl rfl (U_move rfl) rfl rfl ?_
    refine Dv rfl rfl rfl (U_call rfl rfl (checkLeftR_p s c (by omega) l c2 (by omega)) rfl) rfl rfl ?_
    refine Dv rfl rfl rfl (U_neqS rfl rfl) rfl rfl ?_
    refine Dv rfl rfl rfl (U_pick_f rfl rfl) rfl rfl ?_
    refine Dr.nil rfl ?_
    refine thenQ_n ?_
    refine Wcond rfl rfl (fun h => nomatch h) (fun _ => ?_)
    refine W_skip rfl ?_
    refine thenQ_n ?_
    refine W_seq rfl ?_
    refine W_seq rfl ?_
    refine W_reg rfl ?_
    refine Rv rfl rfl rfl (U_move rfl) rfl rfl ?_
    refine Rv rfl rfl rfl (U_neq rfl rfl) rfl rfl ?_
    refine Re rfl ?_
    refine thenQ_n ?_
    refine WcondP rfl rfl (fun hc2 => ?_) (fun hc2 => ?_)
    · simp only [if_neg hc2]
      refine W_seq rfl ?_
      refine Wjoin ⟨[(6, .bool (decide (((([] : List (Int)).length : Nat) : Int) = 0)))], [], 0, []⟩ ?_ ?_
      · refine W_reg rfl ?_
        refine Rv rfl rfl rfl (U_move rfl) rfl rfl ?_
        refine Rv rfl rfl rfl (U_lenOf rfl len_ros) rfl rfl ?_
        refine Rv rfl rfl rfl (U_eql rfl rfl) rfl rfl ?_
        refine Rv rfl rfl rfl (U_move rfl) rfl rfl ?_
        refine Rsplit (t := 100) rfl (fun hg4 => ?_) (fun hg4 => ?_)
        · rw [hg4]
          have hg4' : ((([] : List (Int)).length : Nat) : Int) = 0 := of_decide_eq_true hg4
          refine Rv rfl rfl rfl (U_call rfl rfl (works_p) rfl) rfl rfl ?_
          refine Rv rfl rfl rfl (U_pick_t rfl rfl) rfl rfl ?_
          refine Rv rfl rfl rfl (U_assign rfl) rfl rfl ?_
          refine Re rfl ?_
          exact joinTo id ⟨eD rfl rfl, trivial⟩ trivial rfl rfl rfl rfl (fun _ _ => rfl)
        · rw [hg4]
          have hg4' : ¬ (((([] : List (Int)).length : Nat) : Int) = 0) := of_decide_eq_false hg4
          refine Rs rfl rfl rfl rfl rfl ?_
          refine Rv rfl rfl rfl (U_pick_f rfl rfl) rfl rfl ?_
          refine Rv rfl rfl rfl (U_assign rfl) rfl rfl ?_
          refine Re rfl ?_
          exact joinTo id ⟨eD rfl rfl, trivial⟩ trivial rfl rfl rfl rfl (fun _ _ => rfl)
      refine thenQ_n ?_
      refine W_ret rfl ?_
      refine thenQ_r ?_
      exact retL (rlT rfl rl0) (by first | rfl | (simp only [packA]; simp; first | done | rfl) | (simp only [packA]; simp [hc2]; first | done | rfl) | (simp only [packA]; simp [fewQ, hlo]; first | done | rfl)) rfl
    · rw [Decidable.not_not] at hc2
      simp only [if_pos hc2]
      have h0 : chkS s = 0 := by omega
      have hn := good_12 h0
      have hlo := left_ok h0
      have hfl : (leftQ s).length ≤ 12 := ris_len0 (left_best h0).1.1 hn
      refine W_skip rfl ?_
      refine thenQ_n ?_
      refine W_seq rfl ?_
      refine Wjoin ⟨[(6, .bool ((decide ((((leftQ s).length : Nat) : Int) = (fewQ s : Int))) && (decide ((leftS s (leftQ s)) = 0))))], [], 0, []⟩ ?_ ?_
      · refine W_reg rfl ?_
        refine Rv rfl rfl rfl (U_move rfl) rfl rfl ?_
        refine Rv rfl rfl rfl (U_lenOf rfl len_ros) rfl rfl ?_
        refine Rv rfl rfl rfl (U_move rfl) rfl rfl ?_
        refine Rv rfl rfl rfl (U_eql rfl rfl) rfl rfl ?_
        refine Rv rfl rfl rfl (U_move rfl) rfl rfl ?_
        refine Rsplit (t := 107) rfl (fun hg5 => ?_) (fun hg5 => ?_)
        · rw [hg5]
          have hg5' : (((leftQ s).length : Nat) : Int) = (fewQ s : Int) := of_decide_eq_true hg5
          refine Rv rfl rfl rfl (U_load3 rfl rfl rfl rfl rfl) rfl rfl ?_
          refine Rv rfl rfl rfl (U_move rfl) rfl rfl ?_
          refine Rv rfl rfl rfl (U_call rfl rfl (checkLeftR_p s c (by omega) (leftQ s) none (by omega)) rfl) rfl rfl ?_
          refine Rv rfl rfl rfl (U_eql rfl rfl) rfl rfl ?_
          refine Rv rfl rfl rfl (U_pick_t rfl rfl) rfl rfl ?_
          refine Rv rfl rfl rfl (U_move rfl) rfl rfl ?_
          refine Rsplit (t := 113) rfl (fun hg6 => ?_) (fun hg6 => ?_)
          · rw [hg6]
            have hg6' : (leftS s (leftQ s)) = 0 := of_decide_eq_true hg6
            refine Rv rfl rfl rfl (U_call rfl rfl (works_p) rfl) rfl rfl ?_
            refine Rv rfl rfl rfl (U_pick_t rfl rfl) rfl rfl ?_
            refine Rv rfl rfl rfl (U_assign rfl) rfl rfl ?_
            refine Re rfl ?_
            exact joinTo id ⟨eD rfl rfl, trivial⟩ trivial rfl rfl rfl rfl (fun _ _ => rfl)
          · rw [hg6]
            have hg6' : ¬ ((leftS s (leftQ s)) = 0) := of_decide_eq_false hg6
            refine Rs rfl rfl rfl rfl rfl ?_
            refine Rv rfl rfl rfl (U_pick_f rfl rfl) rfl rfl ?_
            refine Rv rfl rfl rfl (U_assign rfl) rfl rfl ?_
            refine Re rfl ?_
            exact joinTo id ⟨eD rfl rfl, trivial⟩ trivial rfl rfl rfl rfl (fun _ _ => rfl)
        · rw [hg5]
          have hg5' : ¬ ((((leftQ s).length : Nat) : Int) = (fewQ s : Int)) := of_decide_eq_false hg5
          refine Rs rfl rfl rfl rfl rfl ?_
          refine Rs rfl rfl rfl rfl rfl ?_
          refine Rs rfl rfl rfl rfl rfl ?_
          refine Rs rfl rfl rfl rfl rfl ?_
          refine Rv rfl rfl rfl (U_pick_f rfl rfl) rfl rfl ?_
          refine Rv rfl rfl rfl (U_move rfl) rfl rfl ?_
          refine Rs rfl rfl rfl rfl rfl ?_
          refine Rv rfl rfl rfl (U_pick_f rfl rfl) rfl rfl ?_
          refine Rv rfl rfl rfl (U_assign rfl) rfl rfl ?_
          refine Re rfl ?_
          exact joinTo id ⟨eD rfl rfl, trivial⟩ trivial rfl rfl rfl rfl (fun _ _ => rfl)
      refine thenQ_n ?_
      refine W_ret rfl ?_
      exact retL (rlT rfl rl0) (by first | rfl | (simp only [packA]; simp; first | done | rfl) | (simp only [packA]; simp [hc2]; first | done | rfl) | (simp only [packA]; simp [fewQ, hlo]; first | done | rfl)) rfl
end Go.Proofs.Ytapappdgdiaijaa
end

section
/- DriftLeft. -/
namespace Go.Proofs.Ytapappdgdiaijaa
set_option maxRecDepth 20000
open Go.AE
/-- Whether a star is valid, with at most 20 entries. -/
def fineB (s : Star) : Bool := !decide (20 < s.es.length) && decide (chkS s = 0)
theorem kind_facts {s : Star} (h : chkS s = 0) {j : Nat} (hj : j < s.es.length) : kndS s (j : Nat) = 0 ∧ (0 ≤ kindQ s (j : Nat) ∧ kindQ s (j : Nat) ≤ 2) ∧ (kindQ s (j : Nat) = 2 → bitsOf (leftQ s) >>> j &&& 1 = 1) ∧ (kindQ s (j : Nat) = 0 → bitsOf (leftQ s) >>> j &&& 1 ≠ 1) := by
  have hb := left_best h
  have hm := (lists_best h _).2 hb
  have ht : (bitsOf (leftQ s)).testBit j = inLeft (leftQ s) j := bits_test fun x hx => (hb.1.1.1 x hx).1
  have hle := List.countP_le_length (p := fun x : List Int => x.any fun y => decide ((j : Int) = y)) (l := listsQ s)
  refine ⟨by rw [kndS, if_pos h, if_pos]; simp [inL]; omega, ?_, ?_, ?_⟩
  · unfold kindQ; split
    · omega
    · split <;> omega
  · intro hk
    have h0 : (listsQ s).length - inC j (listsQ s) = 0 := by
      unfold kindQ at hk; split at hk
      · assumption
      · split at hk <;> omega
    have h1 : inC j (listsQ s) = (listsQ s).length := by unfold inC at h0 ⊢; omega
    have := List.countP_eq_length.1 h1 _ hm
    rw [bit_val, if_pos]; rw [ht]; exact this
  · intro hk
    have h0 : inC j (listsQ s) = 0 := by
      unfold kindQ at hk; split at hk
      · omega
      · split at hk <;> omega
    have := List.countP_eq_zero.1 h0 _ hm
    rw [bit_val, if_neg]
    · decide
    · rw [ht]; exact this
theorem own_facts {s : Star} (h : chkS s = 0) (b : Nat) : (leftS s (listOf b s.es.length) = 0 ∧ (leftQ s).length ≤ (listOf b s.es.length).length) ∨ leftS s (listOf b s.es.length) = 17 := by
  have hr := listOf_ris b s.es.length
  have hb := left_best h
  unfold leftS
  rw [if_pos h, if_pos ((incrL_iff _ _ _).2 hr)]
  split
  · rename_i h2; exact .inl ⟨rfl, hb.2 _ ⟨hr, h2⟩⟩
  · exact .inr rfl
theorem fewer_no {s : Star} (h : chkS s = 0) {i : Nat} (hi : i < (leftQ s).length) : leftS s ((leftQ s).take i ++ (leftQ s).drop (i + 1)) = 17 := by
  have hb := left_best h
  have hsub : ((leftQ s).take i ++ (leftQ s).drop (i + 1)).Sublist (leftQ s) := by
    have h1 : ((leftQ s).drop (i + 1)).Sublist ((leftQ s).drop i) := by
      rw [Nat.add_comm, ← List.drop_drop]
      have := List.drop_sublist 1 ((leftQ s).drop i)
      simpa [List.drop_drop, Nat.add_comm] using this
    have h2 := (List.Sublist.refl ((leftQ s).take i)).append h1
    rwa [List.take_append_drop] at h2
  have hr : Ris 0 s.es.length ((leftQ s).take i ++ (leftQ s).drop (i + 1)) := ⟨fun x hx => hb.1.1.1 x (hsub.subset hx), hb.1.1.2.sublist hsub⟩
  unfold leftS
  rw [if_pos h, if_pos ((incrL_iff _ _ _).2 hr), if_neg]
  intro h2
  have := hb.2 _ ⟨hr, h2⟩
  simp only [List.length_append, List.length_take, List.length_drop] at this
  omega
theorem few0_p {s : Star} (h : chkS s = 0) (c : Option Nat) (hl : s.es.length ≤ 20) : Pure Try.prog 38 [starA s c] (.tup [i64 (((leftQ s).length : Nat) : Int), i64 0]) := by
  have k := fewest_p s c (by omega); rw [if_pos h, h] at k; exact k
theorem left0_p {s : Star} (h : chkS s = 0) (c : Option Nat) (hl : s.es.length ≤ 20) : Pure Try.prog 40 [starA s c] (.tup [intsA (leftQ s) none, i64 0]) := by
  have k := leftOf_p s c (by omega); rw [if_pos h, h] at k; exact k
theorem chkl0_p {s : Star} (h : chkS s = 0) (c d : Option Nat) (hl : s.es.length ≤ 20) (hf : (leftQ s).length ≤ 12) : Pure Try.prog 43 [starA s c, intsA (leftQ s) d] (i64 0) := by
  have k := checkLeft_p s c (by omega) (leftQ s) d (by omega); rw [left_ok h] at k; exact k
theorem chkr0_p {s : Star} (h : chkS s = 0) (c d : Option Nat) (hl : s.es.length ≤ 20) (hf : (leftQ s).length ≤ 12) : Pure Try.prog 44 [starA s c, intsA (leftQ s) d] (i64 0) := by
  have k := checkLeftR_p s c (by omega) (leftQ s) d (by omega); rw [left_ok h] at k; exact k
theorem kind0_p {s : Star} (h : chkS s = 0) (c : Option Nat) (hl : s.es.length ≤ 20) {j : Nat} (hj : j < s.es.length) : Pure Try.prog 41 [starA s c, i64 (j : Nat)] (.tup [i64 (kindQ s (j : Nat)), i64 0]) := by
  have k := kind_p s c (by omega) (j : Nat); rw [if_pos (kind_facts h hj).1, (kind_facts h hj).1] at k; exact k
theorem few17_p {s : Star} (h : chkS s = 0) (c d : Option Nat) (hl : s.es.length ≤ 20) (hf : (leftQ s).length ≤ 12) {i : Nat} (hi : i < (leftQ s).length) {l : List Int} (e : l = (leftQ s).take i ++ (leftQ s).drop (i + 1)) : Pure Try.prog 43 [starA s c, intsA l d] (i64 17) := by
  have h1 : l.length ≤ 1000000 := by rw [e]; simp; omega
  have k := checkLeft_p s c (by omega) l d h1; rw [e, fewer_no h hi, ← e] at k; exact k
theorem dead4 {q : Int} {b : Nat} (h1 : (0 ≤ q ∧ q ≤ 2) ∧ (q = 2 → b = 1) ∧ (q = 0 → b ≠ 1)) : ¬ ((decide (q < 0) || (decide (2 < q) || (bif decide (q = 2) then (!decide ((b : Int) = 1) || (decide (q = 0) && decide ((b : Int) = 1))) else (decide (q = 0) && decide ((b : Int) = 1))))) = true) := by
  obtain ⟨⟨a1, a2⟩, a3, a4⟩ := h1
  have : q = 0 ∨ q = 1 ∨ q = 2 := by omega
  rcases this with rfl | rfl | rfl
  · have := a4 rfl; simp; omega
  · simp
  · have := a3 rfl; subst this; simp
theorem dead5 {f : Int} {n m : Nat} (h : (f = 0 ∧ m ≤ n) ∨ f = 17) : ¬ ((bif decide (f ≠ 0) then (decide (f ≠ 17) || (decide (f = 0) && decide ((n : Int) < m))) else (decide (f = 0) && decide ((n : Int) < m))) = true) := by
  rcases h with ⟨rfl, h⟩ | rfl
  · simp; omega
  · simp
theorem listOf_len (b n : Nat) : (listOf b n).length ≤ n := by rw [← pop_len]; exact popN_le b n
theorem fine_p (s : Star) (c : Option Nat) : Pure Try.prog 45 [starA s c] (.bool (fineB s)) := by
  refine pure_of_body Try.func45 (c := body Try.f45) rfl (by simp [Try.ntmps45]) fun w0 Φ0 => ?_
  refine W_seq rfl ?_
  refine W_reg rfl ?_
  refine Rv rfl rfl rfl (U_boxF rfl rfl rfl) rfl rfl ?_
  refine Rv rfl rfl rfl (U_assign rfl) rfl rfl ?_
  refine Re rfl ?_
  refine thenQ_n ?_
  refine W_seq rfl ?_
  refine Wjoin ⟨[(2, .bool ((!(decide (20 < s.es.length))) && (decide ((chkS s) = 0))))], [], 0, []⟩ ?_ ?_
  · refine W_reg rfl ?_
    refine Rv rfl rfl rfl (U_load3 rfl rfl rfl rfl rfl) rfl rfl ?_
    refine Rv rfl rfl rfl (U_call rfl rfl (great_p s c) rfl) rfl rfl ?_
    refine Rv rfl rfl rfl (U_not rfl) rfl rfl ?_
    refine Rv rfl rfl rfl (U_move rfl) rfl rfl ?_
    refine Rsplit (t := 6) rfl (fun hg1 => ?_) (fun hg1 => ?_)
    · rw [hg1]
      refine Rv rfl rfl rfl (U_load3 rfl rfl rfl rfl rfl) rfl rfl ?_
      have hl : s.es.length ≤ 20 := by simp at hg1; omega
      refine Rv rfl rfl rfl (U_call rfl rfl (chkR_p s c (by omega)) rfl) rfl rfl ?_
      refine Rv rfl rfl rfl (U_eql rfl rfl) rfl rfl ?_
      refine Rv rfl rfl rfl (U_pick_t rfl rfl) rfl rfl ?_
      refine Rv rfl rfl rfl (U_assign rfl) rfl rfl ?_
      refine Re rfl ?_
      exact joinTo id ⟨eD rfl rfl, trivial⟩ trivial rfl rfl rfl rfl (fun _ _ => rfl)
    · rw [hg1]
      refine Rs rfl rfl rfl rfl rfl ?_
      refine Rs rfl rfl rfl rfl rfl ?_
      refine Rs rfl rfl rfl rfl rfl ?_
      refine Rv rfl rfl rfl (U_pick_f rfl rfl) rfl rfl ?_
      refine Rv rfl rfl rfl (U_assign rfl) rfl rfl ?_
      refine Re rfl ?_
      exact joinTo id ⟨eD rfl rfl, trivial⟩ trivial rfl rfl rfl rfl (fun _ _ => rfl)
  refine thenQ_n ?_
  refine W_ret rfl ?_
  exact retL (rlT rfl rl0) (by first | rfl | (simp only [packA]; rfl; first | done | rfl) | (simp only [packA]; simp [fineB]; first | done | rfl)) rfl
theorem driftLeft_p (s : Star) (c : Option Nat) (back bits : Nat) (hb0 : back < 256) (hb1 : bits < 65536) : Pure Try.prog 15 [starA s c, .int .u8 (back : Nat), .int .u16 (bits : Nat)] (.bool true) := by
  refine pure_of_body Try.func15 (c := body Try.f15) rfl (by simp [Try.ntmps15]) fun w0 Φ0 => ?_
  refine W_seq rfl ?_
  refine W_reg rfl ?_
  refine Rv rfl rfl rfl (U_boxF rfl rfl rfl) rfl rfl ?_
  refine Rv rfl rfl rfl (U_assign rfl) rfl rfl ?_
  refine Re rfl ?_
  refine thenQ_n ?_
  refine W_seq rfl ?_
  refine W_seq rfl ?_
  refine Wjoin ⟨[(1, .int .u8 ((back : Nat) : Int)), (2, .int .u16 ((bits : Nat) : Int)), (3, .rop [i64 s.lo, i64 s.hi, .ros (s.es.flatMap entC) s.es.length c] 0), (27, .bool ((!(fineB s)) || (decide (9 < ((s.es.length : Nat) : Int)))))], [], 0, []⟩ ?_ ?_
  · refine W_reg rfl ?_
    refine Rv rfl rfl rfl (U_load3 rfl rfl rfl rfl rfl) rfl rfl ?_
    refine Rv rfl rfl rfl (U_call rfl rfl (fine_p s c) rfl) rfl rfl ?_
    refine Rv rfl rfl rfl (U_not rfl) rfl rfl ?_
    refine Rv rfl rfl rfl (U_move rfl) rfl rfl ?_
    refine Rsplit (t := 22) rfl (fun hg1 => ?_) (fun hg1 => ?_)
    · rw [hg1]
      refine Rs rfl rfl rfl rfl rfl ?_
      refine Rs rfl rfl rfl rfl rfl ?_
      refine Rs rfl rfl rfl rfl rfl ?_
      refine Rs rfl rfl rfl rfl rfl ?_
      refine Rv rfl rfl rfl (U_pick_t rfl rfl) rfl rfl ?_
      refine Re rfl ?_
      exact joinTo id ⟨eD rfl rfl, eD rfl rfl, eD rfl rfl, eD rfl rfl, trivial⟩ trivial rfl rfl rfl rfl (fun _ _ => rfl)
    · rw [hg1]
      refine Rv rfl rfl rfl (U_fieldAddrR rfl) rfl rfl ?_
      refine Rv rfl rfl rfl (U_load1 rfl rfl rfl) rfl rfl ?_
      refine Rv rfl rfl rfl (U_lenOf rfl len_ros) rfl rfl ?_
      refine Rv rfl rfl rfl (U_gtr rfl rfl) rfl rfl ?_
      refine Rv rfl rfl rfl (U_pick_f rfl rfl) rfl rfl ?_
      refine Re rfl ?_
      exact joinTo id ⟨eD rfl rfl, eD rfl rfl, eD rfl rfl, eD rfl rfl, trivial⟩ trivial rfl rfl rfl rfl (fun _ _ => rfl)
  refine thenQ_n ?_
  refine Wcond rfl rfl (fun hc0 => ?_) (fun hc0 => ?_)
  · refine W_seq rfl ?_
    refine W_reg rfl ?_
    refine Rv rfl rfl rfl (U_call rfl rfl (works_p) rfl) rfl rfl ?_
    refine Rv rfl rfl rfl (U_assign rfl) rfl rfl ?_
    refine Re rfl ?_
    refine thenQ_n ?_
    refine W_ret rfl ?_
    refine thenQ_r ?_
    exact retL (rlT rfl rl0) rfl rfl
  · have hc0' := Bool.eq_false_iff.1 hc0
    have hf0 : fineB s = true ∧ s.es.length ≤ 9 := by { simp at hc0; exact ⟨hc0.1, by omega⟩ }
    have h0 : chkS s = 0 := by have := hf0.1; simp [fineB] at this; exact this.2
    have hl : s.es.length ≤ 20 := by omega
    have hfl : (leftQ s).length ≤ 12 := ris_len0 (left_best h0).1.1 (by omega)
    have hx : ∀ x ∈ leftQ s, 0 ≤ x ∧ x < 20 := fun x hx => by { have := (left_best h0).1.1.1 x hx; omega }
    have hbo := bits_lt hx
    refine W_skip rfl ?_
    refine thenQ_n ?_
    refine W_seq rfl ?_
    refine W_reg rfl ?_
    refine Rv rfl rfl rfl (U_load3 rfl rfl rfl rfl rfl) rfl rfl ?_
    refine Rv rfl rfl rfl (U_call rfl rfl (few0_p h0 c hl) rfl) rfl rfl ?_
    refine Rv rfl rfl rfl (U_move rfl) rfl rfl ?_
    refine Rv rfl rfl rfl (U_extract rfl rfl) rfl rfl ?_
    refine Rv rfl rfl rfl (U_extract rfl rfl) rfl rfl ?_
    refine Rv rfl rfl rfl (U_assign rfl) rfl rfl ?_
    refine Rv rfl rfl rfl (U_assign rfl) rfl rfl ?_
    refine Re rfl ?_
    refine thenQ_n ?_
    refine W_seq rfl ?_
    refine W_reg rfl ?_
    refine Rv rfl rfl rfl (U_load3 rfl rfl rfl rfl rfl) rfl rfl ?_
    refine Rv rfl rfl rfl (U_call rfl rfl (left0_p h0 c hl) rfl) rfl rfl ?_
    refine Rv rfl rfl rfl (U_move rfl) rfl rfl ?_
    refine Rv rfl rfl rfl (U_extract rfl rfl) rfl rfl ?_
    refine Rv rfl rfl rfl (U_extract rfl rfl) rfl rfl ?_
    refine Rv rfl rfl rfl (U_assign rfl) rfl rfl ?_
    refine Rv rfl rfl rfl (U_assign rfl) rfl rfl ?_
    refine Re rfl ?_
    refine thenQ_n ?_
    refine W_seq rfl ?_
    refine W_seq rfl ?_
    refine W_reg rfl ?_
    refine Rv rfl rfl rfl (U_move rfl) rfl rfl ?_
    refine Rv rfl rfl rfl (U_neq rfl rfl) rfl rfl ?_
    refine Rv rfl rfl rfl (U_move rfl) rfl rfl ?_
    refine Rv rfl rfl rfl (U_move rfl) rfl rfl ?_
    refine Rv rfl rfl rfl (U_neq rfl rfl) rfl rfl ?_
    refine Rv rfl rfl rfl (U_pick_f rfl rfl) rfl rfl ?_
    refine Rv rfl rfl rfl (U_move rfl) rfl rfl ?_
    refine Rv rfl rfl rfl (U_move rfl) rfl rfl ?_
    refine Rv rfl rfl rfl (U_lenOf rfl len_ros) rfl rfl ?_
    refine Rv rfl rfl rfl (U_move rfl) rfl rfl ?_
    refine Rv rfl rfl rfl (U_neqS rfl rfl) rfl rfl ?_
    refine Rv rfl rfl rfl (U_pick_f rfl rfl) rfl rfl ?_
    refine Rv rfl rfl rfl (U_move rfl) rfl rfl ?_
    refine Rv rfl rfl rfl (U_load3 rfl rfl rfl rfl rfl) rfl rfl ?_
    refine Rv rfl rfl rfl (U_move rfl) rfl rfl ?_
    refine Rv rfl rfl rfl (U_call rfl rfl (chkl0_p h0 c none hl hfl) rfl) rfl rfl ?_
    refine Rv rfl rfl rfl (U_neq rfl rfl) rfl rfl ?_
    refine Rv rfl rfl rfl (U_pick_f rfl rfl) rfl rfl ?_
    refine Rv rfl rfl rfl (U_move rfl) rfl rfl ?_
    refine Rv rfl rfl rfl (U_load3 rfl rfl rfl rfl rfl) rfl rfl ?_
    refine Rv rfl rfl rfl (U_move rfl) rfl rfl ?_
    refine Rv rfl rfl rfl (U_call rfl rfl (chkr0_p h0 c none hl hfl) rfl) rfl rfl ?_
    refine Rv rfl rfl rfl (U_neq rfl rfl) rfl rfl ?_
    refine Rv rfl rfl rfl (U_pick_f rfl rfl) rfl rfl ?_
    refine Re rfl ?_
    refine thenQ_n ?_
    refine WcondP rfl rfl (fun h => absurd h (by decide)) (fun _ => ?_)
    refine W_skip rfl ?_
    refine thenQ_n ?_
    refine W_seq rfl ?_
    refine W_reg rfl ?_
    refine Rv rfl rfl rfl (U_assign rfl) rfl rfl ?_
    refine Re rfl ?_
    refine thenQ_n ?_
    refine W_seq rfl ?_
    refine W_seq rfl ?_
    refine W_reg rfl ?_
    refine Rv rfl rfl rfl (U_assign rfl) rfl rfl ?_
    refine Re rfl ?_
    refine thenQ_n ?_
    refine W_block rfl ?_
    refine LoopTo (T' := [(1, .int .u8 ((back : Nat) : Int)), (2, .int .u16 ((bits : Nat) : Int)), (3, .rop [i64 s.lo, i64 s.hi, .ros (s.es.flatMap entC) s.es.length c] 0), (7, i64 (((leftQ s).length : Nat) : Int)), (9, .ros ((leftQ s).map i64) ((leftQ s).length) none), (11, .out 0 [].length 1), (12, i64 ((0 : Nat) : Int))]) (H' := [(0, outB ([].map i64) 3 [].length)]) (n := 1) rfl (fun mz_ qz_ => ∃ (k : Nat) (l : List Int), k ≤ s.es.length ∧ l = listOf bits k ∧ mz_ = s.es.length - k ∧ qz_ = ⟨[(1, .int .u8 ((back : Nat) : Int)), (2, .int .u16 ((bits : Nat) : Int)), (3, .rop [i64 s.lo, i64 s.hi, .ros (s.es.flatMap entC) s.es.length c] 0), (7, i64 (((leftQ s).length : Nat) : Int)), (9, .ros ((leftQ s).map i64) ((leftQ s).length) none), (11, .out 0 l.length 1), (12, i64 ((k : Nat) : Int))], [(0, outB (l.map i64) 3 l.length)], 1, []⟩) ⟨0, [], (by omega), rfl, rfl, rfl⟩ id ⟨eD rfl rfl, eD rfl rfl, eD rfl rfl, eD rfl rfl, eD rfl rfl, eW rfl le_nils_out rfl, eD rfl rfl, trivial⟩ ⟨rO0 rfl, trivial⟩ rfl rfl rfl rfl (fun _ _ => rfl) ?_
    rintro _ _ ⟨k, l, hi0_0, hi0_1, rfl, rfl⟩
    refine W_seq rfl ?_
    refine W_seq rfl ?_
    refine W_reg rfl ?_
    refine Rv rfl rfl rfl (U_move rfl) rfl rfl ?_
    refine Rv rfl rfl rfl (U_fieldAddrR rfl) rfl rfl ?_
    refine Rv rfl rfl rfl (U_load1 rfl rfl rfl) rfl rfl ?_
    refine Rv rfl rfl rfl (U_lenOf rfl len_ros) rfl rfl ?_
    refine Rv rfl rfl rfl (U_lss rfl rfl) rfl rfl ?_
    refine Re rfl ?_
    refine thenQ_n ?_
    refine WcondP rfl rfl (fun hc2 => ?_) (fun hc2 => ?_)
    · have hck : k < s.es.length := by omega
      have hkf := (kind_facts h0 hck).2
      have hll : l.length ≤ k := by rw [hi0_1]; exact listOf_len _ _
      have hsh := Nat.shiftRight_le bits k
      have hsh2 := Nat.shiftRight_le (bitsOf (leftQ s)) k
      refine W_skip rfl ?_
      refine thenQ_n ?_
      refine W_seq rfl ?_
      refine W_block rfl ?_
      refine W_seq rfl ?_
      refine W_seq rfl ?_
      refine W_reg rfl ?_
      refine Rv rfl rfl rfl (U_move rfl) rfl rfl ?_
      refine Rv rfl rfl rfl (U_move rfl) rfl rfl ?_
      refine Rv rfl rfl rfl (U_shr rfl rfl (by omega) (shrN16 (n := bits) (i := k) (by omega))) rfl rfl ?_
      refine Rv rfl rfl rfl (U_and rfl rfl (andN16 (a := bits >>> k) (b := 1) (by omega) (by omega))) rfl rfl ?_
      refine Rv rfl rfl rfl (U_eql rfl rfl) rfl rfl ?_
      refine Re rfl ?_
      refine thenQ_n ?_
      refine WcondP rfl rfl (fun hc3 => ?_) (fun hc3 => ?_)
      · have hbt : bits.testBit k = true := by { have := bit_val bits k; split at this; assumption; omega }
        refine W_reg rfl ?_
        refine Rv rfl rfl rfl (U_move rfl) rfl rfl ?_
        refine Rv rfl rfl rfl (U_move rfl) rfl rfl ?_
        refine Rv rfl rfl rfl (U_buildSliceF (by rfl) (by decide) rfl rfl rfl) rfl rfl ?_
        refine Ra rfl rfl rfl (U_appO (b := 0) (m := 0) (cs' := (l ++ [((k : Nat) : Int)]).map i64) (n' := (l ++ [((k : Nat) : Int)]).length) rfl rfl (by simp) rfl (map_len1 _) rfl rfl (by omega) (appM _ _) (len1 _ _)) rfl rfl rfl ?_
        refine Rv rfl rfl rfl (U_assign rfl) rfl rfl ?_
        refine Re rfl ?_
        refine thenQ_n ?_
        refine W_seq rfl ?_
        refine W_reg rfl ?_
        refine Rv rfl rfl rfl (U_load3 rfl rfl rfl rfl rfl) rfl rfl ?_
        refine Rv rfl rfl rfl (U_move rfl) rfl rfl ?_
        refine Rv rfl rfl rfl (U_call rfl rfl (kind0_p h0 c hl hck) rfl) rfl rfl ?_
        refine Rv rfl rfl rfl (U_move rfl) rfl rfl ?_
        refine Rv rfl rfl rfl (U_extract rfl rfl) rfl rfl ?_
        refine Rv rfl rfl rfl (U_extract rfl rfl) rfl rfl ?_
        refine Rv rfl rfl rfl (U_assign rfl) rfl rfl ?_
        refine Rv rfl rfl rfl (U_assign rfl) rfl rfl ?_
        refine Re rfl ?_
        refine thenQ_n ?_
        refine W_seq rfl ?_
        refine W_reg rfl ?_
        refine Rv rfl rfl rfl (U_move rfl) rfl rfl ?_
        refine Rv rfl rfl rfl (U_call rfl rfl (bits_p (leftQ s) none (by omega) hx) rfl) rfl rfl ?_
        refine Rv rfl rfl rfl (U_move rfl) rfl rfl ?_
        refine Rv rfl rfl rfl (U_shr rfl rfl (by omega) (shrN (n := bitsOf (leftQ s)) (i := k) (by omega))) rfl rfl ?_
        refine Rv rfl rfl rfl (U_and rfl rfl (andN (a := (bitsOf (leftQ s)) >>> k) (b := 1) (by omega) (by omega))) rfl rfl ?_
        refine Rv rfl rfl rfl (U_eql rfl rfl) rfl rfl ?_
        refine Rv rfl rfl rfl (U_assign rfl) rfl rfl ?_
        refine Re rfl ?_
        refine thenQ_n ?_
        refine W_seq rfl ?_
        refine Wjoin ⟨[(1, .int .u8 ((back : Nat) : Int)), (2, .int .u16 ((bits : Nat) : Int)), (3, .rop [i64 s.lo, i64 s.hi, .ros (s.es.flatMap entC) s.es.length c] 0), (7, i64 (((leftQ s).length : Nat) : Int)), (9, .ros ((leftQ s).map i64) ((leftQ s).length) none), (11, .out 1 ((l ++ [((k : Nat) : Int)]).length) 1), (12, i64 ((k : Nat) : Int)), (115, .bool ((decide ((kindQ s ((k : Nat) : Int)) < 0)) || ((decide (2 < (kindQ s ((k : Nat) : Int)))) || (bif (decide ((kindQ s ((k : Nat) : Int)) = 2)) then ((!(decide (((((bitsOf (leftQ s)) >>> k) &&& 1 : Nat) : Int) = 1))) || ((decide ((kindQ s ((k : Nat) : Int)) = 0)) && (decide (((((bitsOf (leftQ s)) >>> k) &&& 1 : Nat) : Int) = 1)))) else ((decide ((kindQ s ((k : Nat) : Int)) = 0)) && (decide (((((bitsOf (leftQ s)) >>> k) &&& 1 : Nat) : Int) = 1)))))))], [(1, outB ((l ++ [((k : Nat) : Int)]).map i64) 3 ((l ++ [((k : Nat) : Int)]).length))], 2, []⟩ ?_ ?_
        · refine W_reg rfl ?_
          refine Rv rfl rfl rfl (U_move rfl) rfl rfl ?_
          refine Rv rfl rfl rfl (U_neq rfl rfl) rfl rfl ?_
          refine Rv rfl rfl rfl (U_move rfl) rfl rfl ?_
          refine Rv rfl rfl rfl (U_move rfl) rfl rfl ?_
          refine Rv rfl rfl rfl (U_lss rfl rfl) rfl rfl ?_
          refine Rv rfl rfl rfl (U_pick_f rfl rfl) rfl rfl ?_
          refine Rv rfl rfl rfl (U_move rfl) rfl rfl ?_
          refine Rsplit (t := 97) rfl (fun hg2 => ?_) (fun hg2 => ?_)
          · rw [hg2]
            have hg2' : (kindQ s ((k : Nat) : Int)) < 0 := of_decide_eq_true hg2
            refine Rs rfl rfl rfl rfl rfl ?_
            refine Rs rfl rfl rfl rfl rfl ?_
            refine Rv rfl rfl rfl (U_pick_t rfl rfl) rfl rfl ?_
            refine Rv rfl rfl rfl (U_move rfl) rfl rfl ?_
            refine Rs rfl rfl rfl rfl rfl ?_
            refine Rs rfl rfl rfl rfl rfl ?_
            refine Rs rfl rfl rfl rfl rfl ?_
            refine Rs rfl rfl rfl rfl rfl ?_
            refine Rs rfl rfl rfl rfl rfl ?_
            refine Rs rfl rfl rfl rfl rfl ?_
            refine Rv rfl rfl rfl (U_pick_t rfl rfl) rfl rfl ?_
            refine Rv rfl rfl rfl (U_move rfl) rfl rfl ?_
            refine Rs rfl rfl rfl rfl rfl ?_
            refine Rs rfl rfl rfl rfl rfl ?_
            refine Rs rfl rfl rfl rfl rfl ?_
            refine Rs rfl rfl rfl rfl rfl ?_
            refine Rs rfl rfl rfl rfl rfl ?_
            refine Rv rfl rfl rfl (U_pick_t rfl rfl) rfl rfl ?_
            refine Re rfl ?_
            exact joinTo id ⟨eD rfl rfl, eD rfl rfl, eD rfl rfl, eD rfl rfl, eD rfl rfl, e_ rfl rfl, eD rfl rfl, eD rfl rfl, trivial⟩ ⟨rO (mapD (fun _ => rfl) _) rfl rfl, trivial⟩ rfl rfl rfl rfl (fun _ _ => rfl)
          · rw [hg2]
            have hg2' : ¬ ((kindQ s ((k : Nat) : Int)) < 0) := of_decide_eq_false hg2
            refine Rv rfl rfl rfl (U_move rfl) rfl rfl ?_
            refine Rv rfl rfl rfl (U_gtr rfl rfl) rfl rfl ?_
            refine Rv rfl rfl rfl (U_pick_f rfl rfl) rfl rfl ?_
            refine Rv rfl rfl rfl (U_move rfl) rfl rfl ?_
            refine Rsplit (t := 101) rfl (fun hg3 => ?_) (fun hg3 => ?_)
            · rw [hg3]
              have hg3' : 2 < (kindQ s ((k : Nat) : Int)) := of_decide_eq_true hg3
              refine Rs rfl rfl rfl rfl rfl ?_
              refine Rs rfl rfl rfl rfl rfl ?_
              refine Rs rfl rfl rfl rfl rfl ?_
              refine Rs rfl rfl rfl rfl rfl ?_
              refine Rs rfl rfl rfl rfl rfl ?_
              refine Rs rfl rfl rfl rfl rfl ?_
              refine Rv rfl rfl rfl (U_pick_t rfl rfl) rfl rfl ?_
              refine Rv rfl rfl rfl (U_move rfl) rfl rfl ?_
              refine Rs rfl rfl rfl rfl rfl ?_
              refine Rs rfl rfl rfl rfl rfl ?_
              refine Rs rfl rfl rfl rfl rfl ?_
              refine Rs rfl rfl rfl rfl rfl ?_
              refine Rs rfl rfl rfl rfl rfl ?_
              refine Rv rfl rfl rfl (U_pick_t rfl rfl) rfl rfl ?_
              refine Re rfl ?_
              exact joinTo id ⟨eD rfl rfl, eD rfl rfl, eD rfl rfl, eD rfl rfl, eD rfl rfl, e_ rfl rfl, eD rfl rfl, eD rfl rfl, trivial⟩ ⟨rO (mapD (fun _ => rfl) _) rfl rfl, trivial⟩ rfl rfl rfl rfl (fun _ _ => rfl)
            · rw [hg3]
              have hg3' : ¬ (2 < (kindQ s ((k : Nat) : Int))) := of_decide_eq_false hg3
              refine Rv rfl rfl rfl (U_move rfl) rfl rfl ?_
              refine Rv rfl rfl rfl (U_eql rfl rfl) rfl rfl ?_
              refine Rv rfl rfl rfl (U_move rfl) rfl rfl ?_
              refine Rsplit (t := 104) rfl (fun hg4 => ?_) (fun hg4 => ?_)
              · rw [hg4]
                have hg4' : (kindQ s ((k : Nat) : Int)) = 2 := of_decide_eq_true hg4
                refine Rv rfl rfl rfl (U_move rfl) rfl rfl ?_
                refine Rv rfl rfl rfl (U_not rfl) rfl rfl ?_
                refine Rv rfl rfl rfl (U_pick_t rfl rfl) rfl rfl ?_
                refine Rv rfl rfl rfl (U_pick_f rfl rfl) rfl rfl ?_
                refine Rv rfl rfl rfl (U_move rfl) rfl rfl ?_
                refine Rsplit (t := 109) rfl (fun hg5 => ?_) (fun hg5 => ?_)
                · rw [hg5]
                  refine Rs rfl rfl rfl rfl rfl ?_
                  refine Rs rfl rfl rfl rfl rfl ?_
                  refine Rs rfl rfl rfl rfl rfl ?_
                  refine Rs rfl rfl rfl rfl rfl ?_
                  refine Rs rfl rfl rfl rfl rfl ?_
                  refine Rv rfl rfl rfl (U_pick_t rfl rfl) rfl rfl ?_
                  refine Re rfl ?_
                  exact joinTo id ⟨eD rfl rfl, eD rfl rfl, eD rfl rfl, eD rfl rfl, eD rfl rfl, e_ rfl rfl, eD rfl rfl, eD rfl rfl, trivial⟩ ⟨rO (mapD (fun _ => rfl) _) rfl rfl, trivial⟩ rfl rfl rfl rfl (fun _ _ => rfl)
                · rw [hg5]
                  refine Rv rfl rfl rfl (U_move rfl) rfl rfl ?_
                  refine Rv rfl rfl rfl (U_eql rfl rfl) rfl rfl ?_
                  refine Rv rfl rfl rfl (U_move rfl) rfl rfl ?_
                  refine Rsplit (t := 112) rfl (fun hg6 => ?_) (fun hg6 => ?_)
                  · rw [hg6]
                    have hg6' : (kindQ s ((k : Nat) : Int)) = 0 := of_decide_eq_true hg6
                    refine Rv rfl rfl rfl (U_move rfl) rfl rfl ?_
                    refine Rv rfl rfl rfl (U_pick_t rfl rfl) rfl rfl ?_
                    refine Rv rfl rfl rfl (U_pick_f rfl rfl) rfl rfl ?_
                    refine Re rfl ?_
                    exact joinTo id ⟨eD rfl rfl, eD rfl rfl, eD rfl rfl, eD rfl rfl, eD rfl rfl, e_ rfl rfl, eD rfl rfl, eD rfl rfl, trivial⟩ ⟨rO (mapD (fun _ => rfl) _) rfl rfl, trivial⟩ rfl rfl rfl rfl (fun _ _ => rfl)
                  · rw [hg6]
                    have hg6' : ¬ ((kindQ s ((k : Nat) : Int)) = 0) := of_decide_eq_false hg6
                    refine Rs rfl rfl rfl rfl rfl ?_
                    refine Rv rfl rfl rfl (U_pick_f rfl rfl) rfl rfl ?_
                    refine Rv rfl rfl rfl (U_pick_f rfl rfl) rfl rfl ?_
                    refine Re rfl ?_
                    exact joinTo id ⟨eD rfl rfl, eD rfl rfl, eD rfl rfl, eD rfl rfl, eD rfl rfl, e_ rfl rfl, eD rfl rfl, eD rfl rfl, trivial⟩ ⟨rO (mapD (fun _ => rfl) _) rfl rfl, trivial⟩ rfl rfl rfl rfl (fun _ _ => rfl)
              · rw [hg4]
                have hg4' : ¬ ((kindQ s ((k : Nat) : Int)) = 2) := of_decide_eq_false hg4
                refine Rs rfl rfl rfl rfl rfl ?_
                refine Rs rfl rfl rfl rfl rfl ?_
                refine Rv rfl rfl rfl (U_pick_f rfl rfl) rfl rfl ?_
                refine Rv rfl rfl rfl (U_pick_f rfl rfl) rfl rfl ?_
                refine Rv rfl rfl rfl (U_move rfl) rfl rfl ?_
                refine Rv rfl rfl rfl (U_move rfl) rfl rfl ?_
                refine Rv rfl rfl rfl (U_eql rfl rfl) rfl rfl ?_
                refine Rv rfl rfl rfl (U_move rfl) rfl rfl ?_
                refine Rsplit (t := 112) rfl (fun hg7 => ?_) (fun hg7 => ?_)
                · rw [hg7]
                  have hg7' : (kindQ s ((k : Nat) : Int)) = 0 := of_decide_eq_true hg7
                  refine Rv rfl rfl rfl (U_move rfl) rfl rfl ?_
                  refine Rv rfl rfl rfl (U_pick_t rfl rfl) rfl rfl ?_
                  refine Rv rfl rfl rfl (U_pick_f rfl rfl) rfl rfl ?_
                  refine Re rfl ?_
                  exact joinTo id ⟨eD rfl rfl, eD rfl rfl, eD rfl rfl, eD rfl rfl, eD rfl rfl, e_ rfl rfl, eD rfl rfl, eD rfl rfl, trivial⟩ ⟨rO (mapD (fun _ => rfl) _) rfl rfl, trivial⟩ rfl rfl rfl rfl (fun _ _ => rfl)
                · rw [hg7]
                  have hg7' : ¬ ((kindQ s ((k : Nat) : Int)) = 0) := of_decide_eq_false hg7
                  refine Rs rfl rfl rfl rfl rfl ?_
                  refine Rv rfl rfl rfl (U_pick_f rfl rfl) rfl rfl ?_
                  refine Rv rfl rfl rfl (U_pick_f rfl rfl) rfl rfl ?_
                  refine Re rfl ?_
                  exact joinTo id ⟨eD rfl rfl, eD rfl rfl, eD rfl rfl, eD rfl rfl, eD rfl rfl, e_ rfl rfl, eD rfl rfl, eD rfl rfl, trivial⟩ ⟨rO (mapD (fun _ => rfl) _) rfl rfl, trivial⟩ rfl rfl rfl rfl (fun _ _ => rfl)
        refine thenQ_n ?_
        refine Wcond rfl rfl (fun hc4 => absurd hc4 (dead4 hkf)) (fun hc4 => ?_)
        refine W_skip rfl ?_
        refine blkQ_n ?_
        refine thenQ_n ?_
        refine W_reg rfl ?_
        refine Rv rfl rfl rfl (U_move rfl) rfl rfl ?_
        refine Rv rfl rfl rfl (U_add rfl rfl (w64e (m := ((k + 1 : Nat) : Int)) (by omega) (by omega) (by omega))) rfl rfl ?_
        refine Rv rfl rfl rfl (U_assign rfl) rfl rfl ?_
        refine Re rfl ?_
        refine thenQ_n ?_
        exact againTo (T' := [(1, .int .u8 ((back : Nat) : Int)), (2, .int .u16 ((bits : Nat) : Int)), (3, .rop [i64 s.lo, i64 s.hi, .ros (s.es.flatMap entC) s.es.length c] 0), (7, i64 (((leftQ s).length : Nat) : Int)), (9, .ros ((leftQ s).map i64) ((leftQ s).length) none), (11, .out 0 (l ++ [((k : Nat) : Int)]).length 1), (12, i64 (((k + 1) : Nat) : Int))]) (H' := [(0, outB ((l ++ [((k : Nat) : Int)]).map i64) 3 (l ++ [((k : Nat) : Int)]).length)]) (n := 1) (s.es.length - (k + 1)) ⟨k + 1, l ++ [((k : Nat) : Int)], (by omega), (by rw [listOf_succ]; first | (rw [if_pos hbt, hi0_1]; done) | (rw [if_neg hbt, hi0_1]; done)), rfl, rfl⟩ (by omega) (mapN [1]) ⟨eD rfl rfl, eD rfl rfl, eD rfl rfl, eD rfl rfl, eD rfl rfl, e_ rfl rfl, eD rfl rfl, trivial⟩ ⟨rO (mapD (fun _ => rfl) _) rfl rfl, trivial⟩ rfl rfl rfl rfl (fun _ h => absurd h (Nat.not_lt_zero _))
      · have hbt : ¬ bits.testBit k = true := by { intro e; rw [bit_val, if_pos e] at hc3; exact hc3 rfl }
        refine W_skip rfl ?_
        refine thenQ_n ?_
        refine W_seq rfl ?_
        refine W_reg rfl ?_
        refine Rv rfl rfl rfl (U_load3 rfl rfl rfl rfl rfl) rfl rfl ?_
        refine Rv rfl rfl rfl (U_move rfl) rfl rfl ?_
        refine Rv rfl rfl rfl (U_call rfl rfl (kind0_p h0 c hl hck) rfl) rfl rfl ?_
        refine Rv rfl rfl rfl (U_move rfl) rfl rfl ?_
        refine Rv rfl rfl rfl (U_extract rfl rfl) rfl rfl ?_
        refine Rv rfl rfl rfl (U_extract rfl rfl) rfl rfl ?_
        refine Rv rfl rfl rfl (U_assign rfl) rfl rfl ?_
        refine Rv rfl rfl rfl (U_assign rfl) rfl rfl ?_
        refine Re rfl ?_
        refine thenQ_n ?_
        refine W_seq rfl ?_
        refine W_reg rfl ?_
        refine Rv rfl rfl rfl (U_move rfl) rfl rfl ?_
        refine Rv rfl rfl rfl (U_call rfl rfl (bits_p (leftQ s) none (by omega) hx) rfl) rfl rfl ?_
        refine Rv rfl rfl rfl (U_move rfl) rfl rfl ?_
        refine Rv rfl rfl rfl (U_shr rfl rfl (by omega) (shrN (n := bitsOf (leftQ s)) (i := k) (by omega))) rfl rfl ?_
        refine Rv rfl rfl rfl (U_and rfl rfl (andN (a := (bitsOf (leftQ s)) >>> k) (b := 1) (by omega) (by omega))) rfl rfl ?_
        refine Rv rfl rfl rfl (U_eql rfl rfl) rfl rfl ?_
        refine Rv rfl rfl rfl (U_assign rfl) rfl rfl ?_
        refine Re rfl ?_
        refine thenQ_n ?_
        refine W_seq rfl ?_
        refine Wjoin ⟨[(1, .int .u8 ((back : Nat) : Int)), (2, .int .u16 ((bits : Nat) : Int)), (3, .rop [i64 s.lo, i64 s.hi, .ros (s.es.flatMap entC) s.es.length c] 0), (7, i64 (((leftQ s).length : Nat) : Int)), (9, .ros ((leftQ s).map i64) ((leftQ s).length) none), (11, .out 0 l.length 1), (12, i64 ((k : Nat) : Int)), (115, .bool ((decide ((kindQ s ((k : Nat) : Int)) < 0)) || ((decide (2 < (kindQ s ((k : Nat) : Int)))) || (bif (decide ((kindQ s ((k : Nat) : Int)) = 2)) then ((!(decide (((((bitsOf (leftQ s)) >>> k) &&& 1 : Nat) : Int) = 1))) || ((decide ((kindQ s ((k : Nat) : Int)) = 0)) && (decide (((((bitsOf (leftQ s)) >>> k) &&& 1 : Nat) : Int) = 1)))) else ((decide ((kindQ s ((k : Nat) : Int)) = 0)) && (decide (((((bitsOf (leftQ s)) >>> k) &&& 1 : Nat) : Int) = 1)))))))], [(0, outB (l.map i64) 3 l.length)], 1, []⟩ ?_ ?_
        · refine W_reg rfl ?_
          refine Rv rfl rfl rfl (U_move rfl) rfl rfl ?_
          refine Rv rfl rfl rfl (U_neq rfl rfl) rfl rfl ?_
          refine Rv rfl rfl rfl (U_move rfl) rfl rfl ?_
          refine Rv rfl rfl rfl (U_move rfl) rfl rfl ?_
          refine Rv rfl rfl rfl (U_lss rfl rfl) rfl rfl ?_
          refine Rv rfl rfl rfl (U_pick_f rfl rfl) rfl rfl ?_
          refine Rv rfl rfl rfl (U_move rfl) rfl rfl ?_
          refine Rsplit (t := 97) rfl (fun hg8 => ?_) (fun hg8 => ?_)
          · rw [hg8]
            have hg8' : (kindQ s ((k : Nat) : Int)) < 0 := of_decide_eq_true hg8
            refine Rs rfl rfl rfl rfl rfl ?_
            refine Rs rfl rfl rfl rfl rfl ?_
            refine Rv rfl rfl rfl (U_pick_t rfl rfl) rfl rfl ?_
            refine Rv rfl rfl rfl (U_move rfl) rfl rfl ?_
            refine Rs rfl rfl rfl rfl rfl ?_
            refine Rs rfl rfl rfl rfl rfl ?_
            refine Rs rfl rfl rfl rfl rfl ?_
            refine Rs rfl rfl rfl rfl rfl ?_
            refine Rs rfl rfl rfl rfl rfl ?_
            refine Rs rfl rfl rfl rfl rfl ?_
            refine Rv rfl rfl rfl (U_pick_t rfl rfl) rfl rfl ?_
            refine Rv rfl rfl rfl (U_move rfl) rfl rfl ?_
            refine Rs rfl rfl rfl rfl rfl ?_
            refine Rs rfl rfl rfl rfl rfl ?_
            refine Rs rfl rfl rfl rfl rfl ?_
            refine Rs rfl rfl rfl rfl rfl ?_
            refine Rs rfl rfl rfl rfl rfl ?_
            refine Rv rfl rfl rfl (U_pick_t rfl rfl) rfl rfl ?_
            refine Re rfl ?_
            exact joinTo id ⟨eD rfl rfl, eD rfl rfl, eD rfl rfl, eD rfl rfl, eD rfl rfl, e_ rfl rfl, eD rfl rfl, eD rfl rfl, trivial⟩ ⟨rO (mapD (fun _ => rfl) _) rfl rfl, trivial⟩ rfl rfl rfl rfl (fun _ _ => rfl)
          · rw [hg8]
            have hg8' : ¬ ((kindQ s ((k : Nat) : Int)) < 0) := of_decide_eq_false hg8
            refine Rv rfl rfl rfl (U_move rfl) rfl rfl ?_
            refine Rv rfl rfl rfl (U_gtr rfl rfl) rfl rfl ?_
            refine Rv rfl rfl rfl (U_pick_f rfl rfl) rfl rfl ?_
            refine Rv rfl rfl rfl (U_move rfl) rfl rfl ?_
            refine Rsplit (t := 101) rfl (fun hg9 => ?_) (fun hg9 => ?_)
            · rw [hg9]
              have hg9' : 2 < (kindQ s ((k : Nat) : Int)) := of_decide_eq_true hg9
              refine Rs rfl rfl rfl rfl rfl ?_
              refine Rs rfl rfl rfl rfl rfl ?_
              refine Rs rfl rfl rfl rfl rfl ?_
              refine Rs rfl rfl rfl rfl rfl ?_
              refine Rs rfl rfl rfl rfl rfl ?_
              refine Rs rfl rfl rfl rfl rfl ?_
              refine Rv rfl rfl rfl (U_pick_t rfl rfl) rfl rfl ?_
              refine Rv rfl rfl rfl (U_move rfl) rfl rfl ?_
              refine Rs rfl rfl rfl rfl rfl ?_
              refine Rs rfl rfl rfl rfl rfl ?_
              refine Rs rfl rfl rfl rfl rfl ?_
              refine Rs rfl rfl rfl rfl rfl ?_
              refine Rs rfl rfl rfl rfl rfl ?_
              refine Rv rfl rfl rfl (U_pick_t rfl rfl) rfl rfl ?_
              refine Re rfl ?_
              exact joinTo id ⟨eD rfl rfl, eD rfl rfl, eD rfl rfl, eD rfl rfl, eD rfl rfl, e_ rfl rfl, eD rfl rfl, eD rfl rfl, trivial⟩ ⟨rO (mapD (fun _ => rfl) _) rfl rfl, trivial⟩ rfl rfl rfl rfl (fun _ _ => rfl)
            · rw [hg9]
              have hg9' : ¬ (2 < (kindQ s ((k : Nat) : Int))) := of_decide_eq_false hg9
              refine Rv rfl rfl rfl (U_move rfl) rfl rfl ?_
              refine Rv rfl rfl rfl (U_eql rfl rfl) rfl rfl ?_
              refine Rv rfl rfl rfl (U_move rfl) rfl rfl ?_
              refine Rsplit (t := 104) rfl (fun hg10 => ?_) (fun hg10 => ?_)
              · rw [hg10]
                have hg10' : (kindQ s ((k : Nat) : Int)) = 2 := of_decide_eq_true hg10
                refine Rv rfl rfl rfl (U_move rfl) rfl rfl ?_
                refine Rv rfl rfl rfl (U_not rfl) rfl rfl ?_
                refine Rv rfl rfl rfl (U_pick_t rfl rfl) rfl rfl ?_
                refine Rv rfl rfl rfl (U_pick_f rfl rfl) rfl rfl ?_
                refine Rv rfl rfl rfl (U_move rfl) rfl rfl ?_
                refine Rsplit (t := 109) rfl (fun hg11 => ?_) (fun hg11 => ?_)
                · rw [hg11]
                  refine Rs rfl rfl rfl rfl rfl ?_
                  refine Rs rfl rfl rfl rfl rfl ?_
                  refine Rs rfl rfl rfl rfl rfl ?_
                  refine Rs rfl rfl rfl rfl rfl ?_
                  refine Rs rfl rfl rfl rfl rfl ?_
                  refine Rv rfl rfl rfl (U_pick_t rfl rfl) rfl rfl ?_
                  refine Re rfl ?_
                  exact joinTo id ⟨eD rfl rfl, eD rfl rfl, eD rfl rfl, eD rfl rfl, eD rfl rfl, e_ rfl rfl, eD rfl rfl, eD rfl rfl, trivial⟩ ⟨rO (mapD (fun _ => rfl) _) rfl rfl, trivial⟩ rfl rfl rfl rfl (fun _ _ => rfl)
                · rw [hg11]
                  refine Rv rfl rfl rfl (U_move rfl) rfl rfl ?_
                  refine Rv rfl rfl rfl (U_eql rfl rfl) rfl rfl ?_
                  refine Rv rfl rfl rfl (U_move rfl) rfl rfl ?_
                  refine Rsplit (t := 112) rfl (fun hg12 => ?_) (fun hg12 => ?_)
                  · rw [hg12]
                    have hg12' : (kindQ s ((k : Nat) : Int)) = 0 := of_decide_eq_true hg12
                    refine Rv rfl rfl rfl (U_move rfl) rfl rfl ?_
                    refine Rv rfl rfl rfl (U_pick_t rfl rfl) rfl rfl ?_
                    refine Rv rfl rfl rfl (U_pick_f rfl rfl) rfl rfl ?_
                    refine Re rfl ?_
                    exact joinTo id ⟨eD rfl rfl, eD rfl rfl, eD rfl rfl, eD rfl rfl, eD rfl rfl, e_ rfl rfl, eD rfl rfl, eD rfl rfl, trivial⟩ ⟨rO (mapD (fun _ => rfl) _) rfl rfl, trivial⟩ rfl rfl rfl rfl (fun _ _ => rfl)
                  · rw [hg12]
                    have hg12' : ¬ ((kindQ s ((k : Nat) : Int)) = 0) := of_decide_eq_false hg12
                    refine Rs rfl rfl rfl rfl rfl ?_
                    refine Rv rfl rfl rfl (U_pick_f rfl rfl) rfl rfl ?_
                    refine Rv rfl rfl rfl (U_pick_f rfl rfl) rfl rfl ?_
                    refine Re rfl ?_
                    exact joinTo id ⟨eD rfl rfl, eD rfl rfl, eD rfl rfl, eD rfl rfl, eD rfl rfl, e_ rfl rfl, eD rfl rfl, eD rfl rfl, trivial⟩ ⟨rO (mapD (fun _ => rfl) _) rfl rfl, trivial⟩ rfl rfl rfl rfl (fun _ _ => rfl)
              · rw [hg10]
                have hg10' : ¬ ((kindQ s ((k : Nat) : Int)) = 2) := of_decide_eq_false hg10
                refine Rs rfl rfl rfl rfl rfl ?_
                refine Rs rfl rfl rfl rfl rfl ?_
                refine Rv rfl rfl rfl (U_pick_f rfl rfl) rfl rfl ?_
                refine Rv rfl rfl rfl (U_pick_f rfl rfl) rfl rfl ?_
                refine Rv rfl rfl rfl (U_move rfl) rfl rfl ?_
                refine Rv rfl rfl rfl (U_move rfl) rfl rfl ?_
                refine Rv rfl rfl rfl (U_eql rfl rfl) rfl rfl ?_
                refine Rv rfl rfl rfl (U_move rfl) rfl rfl ?_
                refine Rsplit (t := 112) rfl (fun hg13 => ?_) (fun hg13 => ?_)
                · rw [hg13]
                  have hg13' : (kindQ s ((k : Nat) : Int)) = 0 := of_decide_eq_true hg13
                  refine Rv rfl rfl rfl (U_move rfl) rfl rfl ?_
                  refine Rv rfl rfl rfl (U_pick_t rfl rfl) rfl rfl ?_
                  refine Rv rfl rfl rfl (U_pick_f rfl rfl) rfl rfl ?_
                  refine Re rfl ?_
                  exact joinTo id ⟨eD rfl rfl, eD rfl rfl, eD rfl rfl, eD rfl rfl, eD rfl rfl, e_ rfl rfl, eD rfl rfl, eD rfl rfl, trivial⟩ ⟨rO (mapD (fun _ => rfl) _) rfl rfl, trivial⟩ rfl rfl rfl rfl (fun _ _ => rfl)
                · rw [hg13]
                  have hg13' : ¬ ((kindQ s ((k : Nat) : Int)) = 0) := of_decide_eq_false hg13
                  refine Rs rfl rfl rfl rfl rfl ?_
                  refine Rv rfl rfl rfl (U_pick_f rfl rfl) rfl rfl ?_
                  refine Rv rfl rfl rfl (U_pick_f rfl rfl) rfl rfl ?_
                  refine Re rfl ?_
                  exact joinTo id ⟨eD rfl rfl, eD rfl rfl, eD rfl rfl, eD rfl rfl, eD rfl rfl, e_ rfl rfl, eD rfl rfl, eD rfl rfl, trivial⟩ ⟨rO (mapD (fun _ => rfl) _) rfl rfl, trivial⟩ rfl rfl rfl rfl (fun _ _ => rfl)
        refine thenQ_n ?_
        refine Wcond rfl rfl (fun hc4 => absurd hc4 (dead4 hkf)) (fun hc4 => ?_)
        refine W_skip rfl ?_
        refine blkQ_n ?_
        refine thenQ_n ?_
        refine W_reg rfl ?_
        refine Rv rfl rfl rfl (U_move rfl) rfl rfl ?_
        refine Rv rfl rfl rfl (U_add rfl rfl (w64e (m := ((k + 1 : Nat) : Int)) (by omega) (by omega) (by omega))) rfl rfl ?_
        refine Rv rfl rfl rfl (U_assign rfl) rfl rfl ?_
        refine Re rfl ?_
        refine thenQ_n ?_
        exact againTo (T' := [(1, .int .u8 ((back : Nat) : Int)), (2, .int .u16 ((bits : Nat) : Int)), (3, .rop [i64 s.lo, i64 s.hi, .ros (s.es.flatMap entC) s.es.length c] 0), (7, i64 (((leftQ s).length : Nat) : Int)), (9, .ros ((leftQ s).map i64) ((leftQ s).length) none), (11, .out 0 l.length 1), (12, i64 (((k + 1) : Nat) : Int))]) (H' := [(0, outB (l.map i64) 3 l.length)]) (n := 1) (s.es.length - (k + 1)) ⟨k + 1, l, (by omega), (by rw [listOf_succ]; first | (rw [if_pos hbt, hi0_1]; done) | (rw [if_neg hbt, hi0_1]; done)), rfl, rfl⟩ (by omega) id ⟨eD rfl rfl, eD rfl rfl, eD rfl rfl, eD rfl rfl, eD rfl rfl, e_ rfl rfl, eD rfl rfl, trivial⟩ ⟨rO (mapD (fun _ => rfl) _) rfl rfl, trivial⟩ rfl rfl rfl rfl (fun _ _ => rfl)
    · obtain rfl : k = s.es.length := by omega
      have hof := own_facts h0 bits
      rw [← hi0_1] at hof
      have hll : l.length ≤ s.es.length := by rw [hi0_1]; exact listOf_len _ _
      refine W_exit rfl ?_
      refine thenQ_x ?_
      refine thenQ_x ?_
      refine blkQ_x rfl ?_
      refine thenQ_n ?_
      refine W_seq rfl ?_
      refine WfrO 0 (l.map i64) rfl (mapD (fun _ => rfl) _) (T' := [(1, .int .u8 ((back : Nat) : Int)), (3, .rop [i64 s.lo, i64 s.hi, .ros (s.es.flatMap entC) s.es.length c] 0), (7, i64 (((leftQ s).length : Nat) : Int)), (9, .ros ((leftQ s).map i64) ((leftQ s).length) none), (11, .ros (l.map i64) l.length none)]) (H' := []) ⟨fD rfl rfl, fD rfl rfl, fD rfl rfl, fD rfl rfl, fO rfl, trivial⟩ trivial ?_
      refine W_reg rfl ?_
      refine Rv rfl rfl rfl (U_load3 rfl rfl rfl rfl rfl) rfl rfl ?_
      refine Rv rfl rfl rfl (U_move rfl) rfl rfl ?_
      refine Rv rfl rfl rfl (U_call rfl rfl (checkLeft_p s c (by omega) l none (by omega)) rfl) rfl rfl ?_
      refine Rv rfl rfl rfl (U_assign rfl) rfl rfl ?_
      refine Re rfl ?_
      refine thenQ_n ?_
      refine W_seq rfl ?_
      refine W_seq rfl ?_
      refine Wjoin ⟨[(1, .int .u8 ((back : Nat) : Int)), (3, .rop [i64 s.lo, i64 s.hi, .ros (s.es.flatMap entC) s.es.length c] 0), (7, i64 (((leftQ s).length : Nat) : Int)), (9, .ros ((leftQ s).map i64) ((leftQ s).length) none), (134, .bool (bif (decide ((leftS s l) ≠ 0)) then ((decide ((leftS s l) ≠ 17)) || ((decide ((leftS s l) = 0)) && (decide (((l.length : Nat) : Int) < (((leftQ s).length : Nat) : Int))))) else ((decide ((leftS s l) = 0)) && (decide (((l.length : Nat) : Int) < (((leftQ s).length : Nat) : Int))))))], [], 0, []⟩ ?_ ?_
      · refine W_reg rfl ?_
        refine Rv rfl rfl rfl (U_move rfl) rfl rfl ?_
        refine Rv rfl rfl rfl (U_neq rfl rfl) rfl rfl ?_
        refine Rv rfl rfl rfl (U_move rfl) rfl rfl ?_
        refine Rsplit (t := 121) rfl (fun hg14 => ?_) (fun hg14 => ?_)
        · rw [hg14]
          have hg14' : (leftS s l) ≠ 0 := of_decide_eq_true hg14
          refine Rv rfl rfl rfl (U_move rfl) rfl rfl ?_
          refine Rv rfl rfl rfl (U_neq rfl rfl) rfl rfl ?_
          refine Rv rfl rfl rfl (U_pick_t rfl rfl) rfl rfl ?_
          refine Rv rfl rfl rfl (U_move rfl) rfl rfl ?_
          refine Rsplit (t := 125) rfl (fun hg15 => ?_) (fun hg15 => ?_)
          · rw [hg15]
            have hg15' : (leftS s l) ≠ 17 := of_decide_eq_true hg15
            refine Rs rfl rfl rfl rfl rfl ?_
            refine Rs rfl rfl rfl rfl rfl ?_
            refine Rs rfl rfl rfl rfl rfl ?_
            refine Rs rfl rfl rfl rfl rfl ?_
            refine Rs rfl rfl rfl rfl rfl ?_
            refine Rs rfl rfl rfl rfl rfl ?_
            refine Rs rfl rfl rfl rfl rfl ?_
            refine Rs rfl rfl rfl rfl rfl ?_
            refine Rv rfl rfl rfl (U_pick_t rfl rfl) rfl rfl ?_
            refine Re rfl ?_
            exact joinTo id ⟨eD rfl rfl, eD rfl rfl, eD rfl rfl, eD rfl rfl, eD rfl rfl, trivial⟩ trivial rfl rfl rfl rfl (fun _ _ => rfl)
          · rw [hg15]
            have hg15' : ¬ ((leftS s l) ≠ 17) := of_decide_eq_false hg15
            refine Rv rfl rfl rfl (U_move rfl) rfl rfl ?_
            refine Rv rfl rfl rfl (U_eql rfl rfl) rfl rfl ?_
            refine Rv rfl rfl rfl (U_move rfl) rfl rfl ?_
            refine Rsplit (t := 128) rfl (fun hg16 => ?_) (fun hg16 => ?_)
            · rw [hg16]
              have hg16' : (leftS s l) = 0 := of_decide_eq_true hg16
              refine Rv rfl rfl rfl (U_move rfl) rfl rfl ?_
              refine Rv rfl rfl rfl (U_lenOf rfl len_ros) rfl rfl ?_
              refine Rv rfl rfl rfl (U_move rfl) rfl rfl ?_
              refine Rv rfl rfl rfl (U_lss rfl rfl) rfl rfl ?_
              refine Rv rfl rfl rfl (U_pick_t rfl rfl) rfl rfl ?_
              refine Rv rfl rfl rfl (U_pick_f rfl rfl) rfl rfl ?_
              refine Re rfl ?_
              exact joinTo id ⟨eD rfl rfl, eD rfl rfl, eD rfl rfl, eD rfl rfl, eD rfl rfl, trivial⟩ trivial rfl rfl rfl rfl (fun _ _ => rfl)
            · rw [hg16]
              have hg16' : ¬ ((leftS s l) = 0) := of_decide_eq_false hg16
              refine Rs rfl rfl rfl rfl rfl ?_
              refine Rs rfl rfl rfl rfl rfl ?_
              refine Rs rfl rfl rfl rfl rfl ?_
              refine Rs rfl rfl rfl rfl rfl ?_
              refine Rv rfl rfl rfl (U_pick_f rfl rfl) rfl rfl ?_
              refine Rv rfl rfl rfl (U_pick_f rfl rfl) rfl rfl ?_
              refine Re rfl ?_
              exact joinTo id ⟨eD rfl rfl, eD rfl rfl, eD rfl rfl, eD rfl rfl, eD rfl rfl, trivial⟩ trivial rfl rfl rfl rfl (fun _ _ => rfl)
        · rw [hg14]
          have hg14' : ¬ ((leftS s l) ≠ 0) := of_decide_eq_false hg14
          refine Rs rfl rfl rfl rfl rfl ?_
          refine Rs rfl rfl rfl rfl rfl ?_
          refine Rv rfl rfl rfl (U_pick_f rfl rfl) rfl rfl ?_
          refine Rv rfl rfl rfl (U_move rfl) rfl rfl ?_
          refine Rv rfl rfl rfl (U_move rfl) rfl rfl ?_
          refine Rv rfl rfl rfl (U_eql rfl rfl) rfl rfl ?_
          refine Rv rfl rfl rfl (U_move rfl) rfl rfl ?_
          refine Rsplit (t := 128) rfl (fun hg17 => ?_) (fun hg17 => ?_)
          · rw [hg17]
            have hg17' : (leftS s l) = 0 := of_decide_eq_true hg17
            refine Rv rfl rfl rfl (U_move rfl) rfl rfl ?_
            refine Rv rfl rfl rfl (U_lenOf rfl len_ros) rfl rfl ?_
            refine Rv rfl rfl rfl (U_move rfl) rfl rfl ?_
            refine Rv rfl rfl rfl (U_lss rfl rfl) rfl rfl ?_
            refine Rv rfl rfl rfl (U_pick_t rfl rfl) rfl rfl ?_
            refine Rv rfl rfl rfl (U_pick_f rfl rfl) rfl rfl ?_
            refine Re rfl ?_
            exact joinTo id ⟨eD rfl rfl, eD rfl rfl, eD rfl rfl, eD rfl rfl, eD rfl rfl, trivial⟩ trivial rfl rfl rfl rfl (fun _ _ => rfl)
          · rw [hg17]
            have hg17' : ¬ ((leftS s l) = 0) := of_decide_eq_false hg17
            refine Rs rfl rfl rfl rfl rfl ?_
            refine Rs rfl rfl rfl rfl rfl ?_
            refine Rs rfl rfl rfl rfl rfl ?_
            refine Rs rfl rfl rfl rfl rfl ?_
            refine Rv rfl rfl rfl (U_pick_f rfl rfl) rfl rfl ?_
            refine Rv rfl rfl rfl (U_pick_f rfl rfl) rfl rfl ?_
            refine Re rfl ?_
            exact joinTo id ⟨eD rfl rfl, eD rfl rfl, eD rfl rfl, eD rfl rfl, eD rfl rfl, trivial⟩ trivial rfl rfl rfl rfl (fun _ _ => rfl)
      refine thenQ_n ?_
      refine Wcond rfl rfl (fun hc5 => absurd hc5 (dead5 hof)) (fun hc5 => ?_)
      refine W_skip rfl ?_
      refine thenQ_n ?_
      refine W_seq rfl ?_
      refine W_seq rfl ?_
      refine W_reg rfl ?_
      refine Rv rfl rfl rfl (U_move rfl) rfl rfl ?_
      refine Rv rfl rfl rfl (U_eql rfl rfl) rfl rfl ?_
      refine Re rfl ?_
      refine thenQ_n ?_
      refine WcondP rfl rfl (fun hc6 => ?_) (fun hc6 => ?_)
      · refine W_seq rfl ?_
        refine W_reg rfl ?_
        refine Rv rfl rfl rfl (U_call rfl rfl (works_p) rfl) rfl rfl ?_
        refine Rv rfl rfl rfl (U_assign rfl) rfl rfl ?_
        refine Re rfl ?_
        refine thenQ_n ?_
        refine W_ret rfl ?_
        refine thenQ_r ?_
        exact retL (rlT rfl rl0) rfl rfl
      · have hnp : 0 < (leftQ s).length := by omega
        have hil : back % (leftQ s).length < (leftQ s).length := Nat.mod_lt _ hnp
        refine W_skip rfl ?_
        refine thenQ_n ?_
        refine W_seq rfl ?_
        refine W_reg rfl ?_
        refine Rv rfl rfl rfl (U_move rfl) rfl rfl ?_
        refine Rv rfl rfl rfl (U_convInt (by rfl) rfl (wr_i64 (by omega) (by omega))) rfl rfl ?_
        refine Rv rfl rfl rfl (U_move rfl) rfl rfl ?_
        refine Rv rfl rfl rfl (U_rem (c := ((back % ((leftQ s).length) : Nat) : Int)) rfl rfl (by omega) (tmodN _ _)) rfl rfl ?_
        refine Rv rfl rfl rfl (U_assign rfl) rfl rfl ?_
        refine Re rfl ?_
        refine thenQ_n ?_
        refine W_seq rfl ?_
        have hcs : (back % (leftQ s).length = 0 ∧ (leftQ s).length = 1) ∨ (back % (leftQ s).length = 0 ∧ 1 < (leftQ s).length) ∨ (0 < back % (leftQ s).length ∧ back % (leftQ s).length + 1 = (leftQ s).length) ∨ (0 < back % (leftQ s).length ∧ back % (leftQ s).length + 1 < (leftQ s).length) := by omega
        rcases hcs with hz | hz | hz | hz
        · have htl : ((leftQ s).take (back % (leftQ s).length)).length = back % (leftQ s).length := by simp; omega
          refine Wdraw rfl (by kernel_rfl) (by kernel_rfl) ?_
          refine Dv rfl rfl rfl (U_buildSliceF (by rfl) (by decide) rfl rfl rfl) rfl rfl ?_
          refine Dv rfl rfl rfl (U_move rfl) rfl rfl ?_
          refine Dv rfl rfl rfl (U_move rfl) rfl rfl ?_
          have hs18 : back % ((leftQ s).length) ≤ (leftQ s).length := by omega
          refine Dv rfl rfl rfl (U_sliceToL rfl rfl hs18 (mapD (fun _ => rfl) _) (takeM _ _)) rfl rfl ?_
          refine Dv rfl rfl rfl (U_app0G rfl rfl lenk_ros (len0_ros hz.1)) rfl rfl ?_
          refine Dv rfl rfl rfl (U_move rfl) rfl rfl ?_
          refine Dv rfl rfl rfl (U_move rfl) rfl rfl ?_
          refine Dv rfl rfl rfl (U_add rfl rfl (w64e (m := ((back % ((leftQ s).length) + 1 : Nat) : Int)) (by omega) (by omega) (by omega))) rfl rfl ?_
          refine Dv rfl rfl rfl (U_sliceR0 (l := back % (leftQ s).length + 1) rfl rfl (show back % (leftQ s).length + 1 = (leftQ s).length by omega) (by omega)) rfl rfl ?_
          refine Dv rfl rfl rfl (U_app0G rfl rfl lenk_ros (len0_ros rfl)) rfl rfl ?_
          refine Dv rfl rfl rfl (U_assign rfl) rfl rfl ?_
          refine Dr.nil rfl ?_
          refine thenQ_n ?_
          refine W_seq rfl ?_
          refine W_reg rfl ?_
          refine Rv rfl rfl rfl (U_load3 rfl rfl rfl rfl rfl) rfl rfl ?_
          refine Rv rfl rfl rfl (U_move rfl) rfl rfl ?_
          refine Rv rfl rfl rfl (U_call rfl rfl (few17_p h0 c _ hl hfl hil (l := []) (by rw [hz.1, List.drop_of_length_le (by omega)]; simp)) rfl) rfl rfl ?_
          refine Rv rfl rfl rfl (U_eql rfl rfl) rfl rfl ?_
          refine Rv rfl rfl rfl (U_move rfl) rfl rfl ?_
          refine Rv rfl rfl rfl (U_call rfl rfl (works_p) rfl) rfl rfl ?_
          refine Rv rfl rfl rfl (U_pick_t rfl rfl) rfl rfl ?_
          refine Rv rfl rfl rfl (U_assign rfl) rfl rfl ?_
          refine Re rfl ?_
          refine thenQ_n ?_
          refine W_ret rfl ?_
          exact retL (rlT rfl rl0) rfl rfl
        · have htl : ((leftQ s).take (back % (leftQ s).length)).length = back % (leftQ s).length := by simp; omega
          refine Wdraw rfl (by kernel_rfl) (by kernel_rfl) ?_
          refine Dv rfl rfl rfl (U_buildSliceF (by rfl) (by decide) rfl rfl rfl) rfl rfl ?_
          refine Dv rfl rfl rfl (U_move rfl) rfl rfl ?_
          refine Dv rfl rfl rfl (U_move rfl) rfl rfl ?_
          have hs19 : back % ((leftQ s).length) ≤ (leftQ s).length := by omega
          refine Dv rfl rfl rfl (U_sliceToL rfl rfl hs19 (mapD (fun _ => rfl) _) (takeM _ _)) rfl rfl ?_
          refine Dv rfl rfl rfl (U_app0G rfl rfl lenk_ros (len0_ros hz.1)) rfl rfl ?_
          refine Dv rfl rfl rfl (U_move rfl) rfl rfl ?_
          refine Dv rfl rfl rfl (U_move rfl) rfl rfl ?_
          refine Dv rfl rfl rfl (U_add rfl rfl (w64e (m := ((back % ((leftQ s).length) + 1 : Nat) : Int)) (by omega) (by omega) (by omega))) rfl rfl ?_
          refine Dv rfl rfl rfl (U_sliceRL (l := back % (leftQ s).length + 1) (h := (leftQ s).length) rfl rfl rfl (by omega) (by omega) (dropM _ _)) rfl rfl ?_
          refine Da rfl rfl rfl (U_appR (m := (leftQ s).length - back % (leftQ s).length - 2) (cs' := ((leftQ s).drop (back % (leftQ s).length + 1)).map i64) (n' := ((leftQ s).drop (back % (leftQ s).length + 1)).length) rfl rfl rfl (srcX (by simp) (by omega)) (by omega) (by omega) rfl (by simp; omega)) rfl rfl rfl rfl ?_
          refine Dv rfl rfl rfl (U_assign rfl) rfl rfl ?_
          refine Dr.nil rfl ?_
          refine thenQ_n ?_
          refine W_seq rfl ?_
          refine WfrO 0 (((leftQ s).drop (back % (leftQ s).length + 1)).map i64) rfl (mapD (fun _ => rfl) _) (T' := [(3, .rop [i64 s.lo, i64 s.hi, .ros (s.es.flatMap entC) s.es.length c] 0), (18, .ros (((leftQ s).drop (back % (leftQ s).length + 1)).map i64) (((leftQ s).drop (back % (leftQ s).length + 1)).length) none)]) (H' := []) ⟨fD rfl rfl, fO rfl, trivial⟩ trivial ?_
          refine W_reg rfl ?_
          refine Rv rfl rfl rfl (U_load3 rfl rfl rfl rfl rfl) rfl rfl ?_
          refine Rv rfl rfl rfl (U_move rfl) rfl rfl ?_
          refine Rv rfl rfl rfl (U_call rfl rfl (few17_p h0 c _ hl hfl hil (l := (leftQ s).drop (back % (leftQ s).length + 1)) (by rw [hz.1]; simp)) rfl) rfl rfl ?_
          refine Rv rfl rfl rfl (U_eql rfl rfl) rfl rfl ?_
          refine Rv rfl rfl rfl (U_move rfl) rfl rfl ?_
          refine Rv rfl rfl rfl (U_call rfl rfl (works_p) rfl) rfl rfl ?_
          refine Rv rfl rfl rfl (U_pick_t rfl rfl) rfl rfl ?_
          refine Rv rfl rfl rfl (U_assign rfl) rfl rfl ?_
          refine Re rfl ?_
          refine thenQ_n ?_
          refine W_ret rfl ?_
          exact retL (rlT rfl rl0) rfl rfl
        · have htl : ((leftQ s).take (back % (leftQ s).length)).length = back % (leftQ s).length := by simp; omega
          refine Wdraw rfl (by kernel_rfl) (by kernel_rfl) ?_
          refine Dv rfl rfl rfl (U_buildSliceF (by rfl) (by decide) rfl rfl rfl) rfl rfl ?_
          refine Dv rfl rfl rfl (U_move rfl) rfl rfl ?_
          refine Dv rfl rfl rfl (U_move rfl) rfl rfl ?_
          have hs20 : back % ((leftQ s).length) ≤ (leftQ s).length := by omega
          refine Dv rfl rfl rfl (U_sliceToL rfl rfl hs20 (mapD (fun _ => rfl) _) (takeM _ _)) rfl rfl ?_
          refine Da rfl rfl rfl (U_appR (m := back % (leftQ s).length - 1) (cs' := ((leftQ s).take (back % (leftQ s).length)).map i64) (n' := ((leftQ s).take (back % (leftQ s).length)).length) rfl rfl rfl (srcX (by simp; omega) (by omega)) (by omega) (by omega) rfl (by simp; omega)) rfl rfl rfl rfl ?_
          refine Dv rfl rfl rfl (U_move rfl) rfl rfl ?_
          refine Dv rfl rfl rfl (U_move rfl) rfl rfl ?_
          refine Dv rfl rfl rfl (U_add rfl rfl (w64e (m := ((back % ((leftQ s).length) + 1 : Nat) : Int)) (by omega) (by omega) (by omega))) rfl rfl ?_
          refine Dv rfl rfl rfl (U_sliceR0 (l := back % (leftQ s).length + 1) rfl rfl (show back % (leftQ s).length + 1 = (leftQ s).length by omega) (by omega)) rfl rfl ?_
          refine Dv rfl rfl rfl (U_app0G rfl rfl lenk_out (len0_ros rfl)) rfl rfl ?_
          refine Dv rfl rfl rfl (U_assign rfl) rfl rfl ?_
          refine Dr.nil rfl ?_
          refine thenQ_n ?_
          refine W_seq rfl ?_
          refine WfrO 0 (((leftQ s).take (back % (leftQ s).length)).map i64) rfl (mapD (fun _ => rfl) _) (T' := [(3, .rop [i64 s.lo, i64 s.hi, .ros (s.es.flatMap entC) s.es.length c] 0), (18, .ros (((leftQ s).take (back % (leftQ s).length)).map i64) (((leftQ s).take (back % (leftQ s).length)).length) none)]) (H' := []) ⟨fD rfl rfl, fO rfl, trivial⟩ trivial ?_
          refine W_reg rfl ?_
          refine Rv rfl rfl rfl (U_load3 rfl rfl rfl rfl rfl) rfl rfl ?_
          refine Rv rfl rfl rfl (U_move rfl) rfl rfl ?_
          refine Rv rfl rfl rfl (U_call rfl rfl (few17_p h0 c _ hl hfl hil (l := (leftQ s).take (back % (leftQ s).length)) (by rw [List.drop_of_length_le (by omega)]; simp)) rfl) rfl rfl ?_
          refine Rv rfl rfl rfl (U_eql rfl rfl) rfl rfl ?_
          refine Rv rfl rfl rfl (U_move rfl) rfl rfl ?_
          refine Rv rfl rfl rfl (U_call rfl rfl (works_p) rfl) rfl rfl ?_
          refine Rv rfl rfl rfl (U_pick_t rfl rfl) rfl rfl ?_
          refine Rv rfl rfl rfl (U_assign rfl) rfl rfl ?_
          refine Re rfl ?_
          refine thenQ_n ?_
          refine W_ret rfl ?_
          exact retL (rlT rfl rl0) rfl rfl
        · have htl : ((leftQ s).take (back % (leftQ s).length)).length = back % (leftQ s).length := by simp; omega
          refine Wdraw rfl (by kernel_rfl) (by kernel_rfl) ?_
          refine Dv rfl rfl rfl (U_buildSliceF (by rfl) (by decide) rfl rfl rfl) rfl rfl ?_
          refine Dv rfl rfl rfl (U_move rfl) rfl rfl ?_
          refine Dv rfl rfl rfl (U_move rfl) rfl rfl ?_
          have hs21 : back % ((leftQ s).length) ≤ (leftQ s).length := by omega
          refine Dv rfl rfl rfl (U_sliceToL rfl rfl hs21 (mapD (fun _ => rfl) _) (takeM _ _)) rfl rfl ?_
          refine Da rfl rfl rfl (U_appR (m := back % (leftQ s).length - 1) (cs' := ((leftQ s).take (back % (leftQ s).length)).map i64) (n' := ((leftQ s).take (back % (leftQ s).length)).length) rfl rfl rfl (srcX (by simp; omega) (by omega)) (by omega) (by omega) rfl (by simp; omega)) rfl rfl rfl rfl ?_
          refine Dv rfl rfl rfl (U_move rfl) rfl rfl ?_
          refine Dv rfl rfl rfl (U_move rfl) rfl rfl ?_
          refine Dv rfl rfl rfl (U_add rfl rfl (w64e (m := ((back % ((leftQ s).length) + 1 : Nat) : Int)) (by omega) (by omega) (by omega))) rfl rfl ?_
          refine Dv rfl rfl rfl (U_sliceRL (l := back % (leftQ s).length + 1) (h := (leftQ s).length) rfl rfl rfl (by omega) (by omega) (dropM _ _)) rfl rfl ?_
          refine Da rfl rfl rfl (U_appO (b := 0) (cs := ((leftQ s).take (back % (leftQ s).length)).map i64) (m := (leftQ s).length - back % (leftQ s).length - 2) (cs' := ((leftQ s).take (back % (leftQ s).length) ++ (leftQ s).drop (back % (leftQ s).length + 1)).map i64) (n' := ((leftQ s).take (back % (leftQ s).length) ++ (leftQ s).drop (back % (leftQ s).length + 1)).length) rfl rfl (by simp) rfl (by simp) (srcX (by simp) (by omega)) (allM (fun _ => rfl) _) (by simp; omega) (by simp) (by simp; omega)) rfl rfl rfl (upsO rfl (by simp; omega)) ?_
          refine Dv rfl rfl rfl (U_assign rfl) rfl rfl ?_
          refine Dr.nil rfl ?_
          refine thenQ_n ?_
          refine W_seq rfl ?_
          refine WfrO 1 (((leftQ s).take (back % (leftQ s).length) ++ (leftQ s).drop (back % (leftQ s).length + 1)).map i64) rfl (mapD (fun _ => rfl) _) (T' := [(3, .rop [i64 s.lo, i64 s.hi, .ros (s.es.flatMap entC) s.es.length c] 0), (18, .ros (((leftQ s).take (back % (leftQ s).length) ++ (leftQ s).drop (back % (leftQ s).length + 1)).map i64) (((leftQ s).take (back % (leftQ s).length) ++ (leftQ s).drop (back % (leftQ s).length + 1)).length) none)]) (H' := []) ⟨fD rfl rfl, fO rfl, trivial⟩ trivial ?_
          refine W_reg rfl ?_
          refine Rv rfl rfl rfl (U_load3 rfl rfl rfl rfl rfl) rfl rfl ?_
          refine Rv rfl rfl rfl (U_move rfl) rfl rfl ?_
          refine Rv rfl rfl rfl (U_call rfl rfl (few17_p h0 c _ hl hfl hil (l := (leftQ s).take (back % (leftQ s).length) ++ (leftQ s).drop (back % (leftQ s).length + 1)) (by rfl)) rfl) rfl rfl ?_
          refine Rv rfl rfl rfl (U_eql rfl rfl) rfl rfl ?_
          refine Rv rfl rfl rfl (U_move rfl) rfl rfl ?_
          refine Rv rfl rfl rfl (U_call rfl rfl (works_p) rfl) rfl rfl ?_
          refine Rv rfl rfl rfl (U_pick_t rfl rfl) rfl rfl ?_
          refine Rv rfl rfl rfl (U_assign rfl) rfl rfl ?_
          refine Re rfl ?_
          refine thenQ_n ?_
          refine W_ret rfl ?_
          exact retL (rlT rfl rl0) rfl rfl
end Go.Proofs.Ytapappdgdiaijaa
end
