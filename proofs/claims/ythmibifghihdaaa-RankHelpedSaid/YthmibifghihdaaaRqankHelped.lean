import Derived.IntWalk
import Derived.Test.YthmibifghihdaaaM5
set_option linter.all false
section
namespace Go.AE
open Go.RowKit
section
variable {ρ : Env} {Φ : Fz} {w : World}
end
section
variable {C : Ctx} {o : Oper} {T : AT} {H : AH} {nx nx' : Nat} {v : AV} {ups : AH}
end
section ops
variable {C : Ctx} {T : AT} {H : AH} {nx : Nat} {d : Option Tmp} {ty : TypeId} {pos : String} {after : Array Edge} {g : Option (Nat × Bool)}
section num
variable {x y : Operand} {k : IntKind} {a b c : Int} {t t' : TypeId}
theorem U_leq (hx : ev T x = some (.int k a)) (hy : ev T y = some (.int k b)) : OpU C ⟨d, .binOp .leq t x y t', ty, pos, after, g⟩ T H nx (.bool (decide (a ≤ b))) [] nx :=
  binInt hx hy rfl (by simp) fun w => ⟨.bool (decide (a ≤ b)), by simp [binOp, Op.intCmp], fun _ _ => mk_bool⟩
end num
end ops
end Go.AE
end

section
namespace Go.AE
open Go.RowKit
section ops
variable {C : Ctx} {T : AT} {H : AH} {nx : Nat} {d : Option Tmp} {ty : TypeId} {pos : String} {after : Array Edge} {g : Option (Nat × Bool)}
end ops
section steps
variable {C : Ctx} {T : AT} {H : AH} {nx : Nat} {df : List Nat} {ops : Array Oper} {i : Nat} {K : St → Prop} {o : Oper} {v : AV} {ups : AH} {nx' t : Nat} {c : Bool}
end steps
section dsteps
variable {al : Nat × ABlk} {C : Ctx} {kl : Oper → Nat} {ops : List Oper} {ms : List Nat} {H0 : AH} {K : AT → AH → Nat → Prop} {i : Nat} {T : AT} {D : List (Nat × AH)} {nx nx' t : Nat} {o : Oper} {v : AV} {ups : AH} {c : Bool}
end dsteps
section codes
variable {C : Ctx} {c : Code} {Q : Exit → St → Prop} {T : AT} {H : AH} {nx : Nat} {df : List Nat}
theorem WdrawL (l : List Nat) (h : c.tag = 2) (hm : C.P.follows .mixedOrders = true) (hck : chk (light l) c.ops.toList (masks c.ops.toList) = true)
    (k : Dr (al := al0) C (light l) c.ops.toList (masks c.ops.toList) H (fun T H nx => Q .normal ⟨T, H, nx, df⟩) 0 T [] nx) : WpA C c Q ⟨T, H, nx, df⟩ := W_draw h hm hck k
end codes
section ops
variable {C : Ctx} {T : AT} {H : AH} {nx : Nat} {d : Option Tmp} {ty : TypeId} {pos : String} {after : Array Edge} {g : Option (Nat × Bool)}
end ops
end Go.AE
end

section
namespace Go.AE
open Go.RowKit
section ops
variable {C : Ctx} {T : AT} {H : AH} {nx : Nat} {d : Option Tmp} {ty : TypeId} {pos : String} {after : Array Edge} {g : Option (Nat × Bool)}
end ops
section
variable {C : Ctx} {c : Code} {Q : Exit → St → Prop} {T T' : AT} {H H' : AH} {nx n : Nat} {df : List Nat}
end
section
variable {C : Ctx} {c : Code} {Q : Exit → St → Prop} {T T' : AT} {H H' : AH} {nx : Nat} {df : List Nat} {b n z : Nat} {cs : List AV} {t : TypeId}
theorem fS {b n z i : Nat} {cs : List AV} {v : AV} {T : AT} (h : lk T i = some v) (hv : v.nob b = true) : ∃ u, lk T i = some u ∧ FrO b n z cs u v := ⟨v, h, .same hv⟩
end
end Go.AE
end

section
namespace Go.AE
open Go.RowKit
section
variable {P : Program} {T : AT} {H : AH} {nx : Nat}
end
section ops
variable {C : Ctx} {T : AT} {H : AH} {nx : Nat} {d : Option Tmp} {ty : TypeId} {pos : String} {after : Array Edge} {g : Option (Nat × Bool)}
end ops
theorem upsO {Hr : AH} {nx b n : Nat} {k : Option ABlk} {cs : List AV} {e : TypeId} (hg : gt Hr b = outB cs e n) (hn : 0 < n) : upsOk 2 Hr nx (nx + 1) [(nx, k), (b, none)] = true := by
  obtain ⟨m, rfl⟩ : ∃ m, n = m + 1 := ⟨n - 1, by omega⟩
  simp [upsOk, hg, outB]
end Go.AE
end

section
namespace Go.AE
open Go.RowKit
section
variable {C : Ctx} {T : AT} {H : AH} {nx : Nat} {d : Option Tmp} {ty : TypeId} {pos : String} {after : Array Edge} {g : Option (Nat × Bool)}
theorem len0_ros {cs : List AV} {n : Nat} {c : Option Nat} (hn : n = 0) : ∀ (ρ : Env) Φ w y, Con ρ Φ w (.ros cs n c) y → ∃ a k, y = .slice a 0 k := fun ρ Φ w y h => by
  obtain ⟨a, k, h1, _⟩ := lenk_ros ρ Φ w y h; subst hn; exact ⟨a, k, h1⟩
end
end Go.AE
end

section
namespace Go.AE
open Go.RowKit
section
variable {C : Ctx} {T : AT} {H : AH} {nx : Nat} {d : Option Tmp} {ty : TypeId} {pos : String} {after : Array Edge} {g : Option (Nat × Bool)}
theorem U_appL {sT xT e e' z n n' : Nat} {x y : Operand} {s v : AV} {news : List AV} [hT : TySl C.P sT e z] [hX : TySl C.P xT e' z] [hE : TyElem C.P e z] (hx : ev T x = some s) (hs : srcS z H s = some ([], 0)) (hc0 : capOf s = some 0) (hy : ev T y = some v) (h2 : srcS z H v = some (news, n)) (hn : 0 < n) (hlim : n ≤ 1000000) (hn' : n = n') :
    OpU C ⟨d, .call ⟨.builtin .append, #[x, y], #[sT, xT]⟩, ty, pos, after, g⟩ T H nx (.out nx n' z) [(nx, outB news e n')] (nx + 1) := by
  subst hn'
  cases n with
  | zero => cases hn
  | succ m =>
    have h := U_appendGrow (C := C) (T := T) (H := H) (nx := nx) (d := d) (ty := ty) (pos := pos) (after := after) (g := g) (sT := sT) (xT := xT) hx hy hs h2 hc0 (by omega) (by omega)
    rw [Nat.zero_add] at h
    exact OpU.weakV (fun _ _ _ _ h => con_outS.2 h) h
end
end Go.AE
end

section
namespace Go.Proofs.Ythmibifghihdaaa
set_option maxRecDepth 20000
open Go.AE
theorem chkB_ok {b : Bk} (h : chkB b = 0) : ∃ (n : Nat) (ks : List (Nat × Nat)), b = ⟨n, ks.map cP⟩ ∧ VB n ks ∧ ks.length ≤ 40 := by
  unfold chkB at h
  split at h
  · omega
  · rename_i h1
    split at h
    · omega
    · rename_i h2
      have h1' : (1 ≤ b.n ∧ b.n ≤ 10) ∧ b.ls.length ≤ 40 := by simp [inL1] at h1; omega
      have h2' : ∀ p ∈ b.ls, (0 ≤ p.1 ∧ p.1 < b.n) ∧ (0 ≤ p.2 ∧ p.2 < b.n) ∧ p.1 ≠ p.2 := by
        intro p hp
        have : strB b.n p = false := by
          cases e : strB b.n p with
          | false => rfl
          | true => exact absurd (List.any_eq_true.2 ⟨p, hp, e⟩) h2
        rw [strB_eq] at this; simp [staB] at this; omega
      refine ⟨b.n.toNat, b.ls.map fun p => (p.1.toNat, p.2.toNat), ?_, ⟨by omega, by omega, by simp; omega, fun p hp => ?_⟩, by simp; omega⟩
      · obtain ⟨n, ls⟩ := b
        simp only at h1' h2'
        have e1 : ((n.toNat : Nat) : Int) = n := by omega
        have e2 : (ls.map fun p => (p.1.toNat, p.2.toNat)).map cP = ls := by
          rw [List.map_map]
          refine (List.map_congr_left fun p hp => ?_).trans (List.map_id _)
          have := h2' p hp
          refine Prod.ext ?_ ?_ <;> simp [cP] <;> omega
        rw [e1, e2]
      · obtain ⟨q, hq, rfl⟩ := List.mem_map.1 hp
        have := h2' q hq
        refine ⟨?_, ?_, ?_⟩ <;> simp only <;> omega
end Go.Proofs.Ythmibifghihdaaa
end

section
namespace Go.Proofs.Ythmibifghihdaaa
set_option maxRecDepth 20000
open Go.AE
theorem chance_gY (n : Nat) (ks : List (Nat × Nat)) (c : Option Nat) (hv : VB n ks) (h40 : ks.length ≤ 40) (ha : Acy n ks) (a b : Nat) (ha2 : a < n) (hb2 : b < n) (hab : a ≠ b) (hpos : 0 < cntQ n ks) (g2 : Nat) (h2 : Cyc n (ks ++ [(a, b)]) g2) : Pure Try.prog 35 [bknA n ks c, i64 (a : Nat), i64 (b : Nat)] (.tup [.agg [i64 ((frN 0 (cntQ n ks) : Nat) : Int), i64 ((frD 0 (cntQ n ks) : Nat) : Int)], i64 0]) := by
  have hv' := hv
  obtain ⟨hn1, hn, hkl, hk⟩ := hv'
  have hk2 := vb_lt hv
  have hin := in2 ha2 hb2
  have hne : ¬ (a : Int) = b := by omega
  have hv2 := vb_snoc hv (by omega) ha2 hb2 hab
  have hle := cntQ_le hv
  have hle2 := cntQ_le hv2
  refine pure_of_body Try.func35 (c := body Try.f35) rfl (by simp [Try.ntmps35]) fun w0 Φ0 => ?_
  refine W_seq rfl ?_
  refine W_reg rfl ?_
  refine Rv rfl rfl rfl (U_boxF rfl rfl rfl) rfl rfl ?_
  refine Ra rfl rfl rfl (U_alloc) rfl rfl rfl ?_
  refine Rv rfl rfl rfl (U_assign rfl) rfl rfl ?_
  refine Re rfl ?_
  refine thenQ_n ?_
  refine W_seq rfl ?_
  refine W_reg rfl ?_
  refine Rv rfl rfl rfl (U_load2 rfl rfl rfl rfl) rfl rfl ?_
  refine Rv rfl rfl rfl (U_move rfl) rfl rfl ?_
  refine Rv rfl rfl rfl (U_move rfl) rfl rfl ?_
  refine Rv rfl rfl rfl (U_buildSliceF (by rfl) (by decide) rfl rfl rfl) rfl rfl ?_
  refine Rv rfl rfl rfl (U_call rfl rfl (ruledDG_p n ks c hv h40 ((a : Nat) : Int) ((b : Nat) : Int) (some 2) (by assumption) (by assumption) ha) rfl) rfl rfl ?_
  refine Rv rfl rfl rfl (U_move rfl) rfl rfl ?_
  refine Rv rfl rfl rfl (U_extract rfl rfl) rfl rfl ?_
  refine Rv rfl rfl rfl (U_extract rfl rfl) rfl rfl ?_
  refine Rv rfl rfl rfl (U_assign rfl) rfl rfl ?_
  refine Rv rfl rfl rfl (U_assign rfl) rfl rfl ?_
  refine Re rfl ?_
  refine thenQ_n ?_
  refine W_seq rfl ?_
  refine W_seq rfl ?_
  refine W_reg rfl ?_
  refine Rv rfl rfl rfl (U_move rfl) rfl rfl ?_
  refine Rv rfl rfl rfl (U_neq rfl rfl) rfl rfl ?_
  refine Re rfl ?_
  refine thenQ_n ?_
  refine WcondP rfl rfl (fun h => absurd h (by decide)) (fun _ => ?_)
  refine W_skip rfl ?_
  refine thenQ_n ?_
  refine W_seq rfl ?_
  refine W_reg rfl ?_
  refine Rv rfl rfl rfl (U_move rfl) rfl rfl ?_
  refine Rv rfl rfl rfl (U_call rfl rfl (countK_p n ks c hv) rfl) rfl rfl ?_
  refine Rv rfl rfl rfl (U_assign rfl) rfl rfl ?_
  refine Rv rfl rfl rfl (U_assign rfl) rfl rfl ?_
  refine Re rfl ?_
  refine thenQ_n ?_
  refine W_seq rfl ?_
  refine W_seq rfl ?_
  refine W_reg rfl ?_
  refine Rv rfl rfl rfl (U_move rfl) rfl rfl ?_
  refine Rv rfl rfl rfl (U_move rfl) rfl rfl ?_
  refine Rv rfl rfl rfl (U_move rfl) rfl rfl ?_
  refine Rv rfl rfl rfl (U_call rfl rfl (with_p n ks c (seQ ks) (faQ n ks) (briQ n ks) (by omega) (by omega) (by assumption) a b (by first | assumption | omega) (by first | assumption | omega)) rfl) rfl rfl ?_
  refine Rv rfl rfl rfl (U_assign rfl) rfl rfl ?_
  refine Re rfl ?_
  refine thenQ_n ?_
  refine W_seq rfl ?_
  refine W_reg rfl ?_
  refine Rv rfl rfl rfl (U_move rfl) rfl rfl ?_
  refine Rv rfl rfl rfl (U_call rfl rfl (circleY_p n (ks ++ [(a, b)]) none hv2 g2 h2) rfl) rfl rfl ?_
  refine Rv rfl rfl rfl (U_eqRos (by simp) rfl rfl) rfl rfl ?_
  refine Re rfl ?_
  refine thenQ_n ?_
  refine Wcond rfl rfl (fun h => nomatch h) (fun _ => ?_)
  refine W_skip rfl ?_
  refine thenQ_n ?_
  refine W_seq rfl ?_
  refine W_reg rfl ?_
  refine Rv rfl rfl rfl (U_move rfl) rfl rfl ?_
  refine Rv rfl rfl rfl (U_move rfl) rfl rfl ?_
  refine Rv rfl rfl rfl (U_assign rfl) rfl rfl ?_
  refine Rv rfl rfl rfl (U_assign rfl) rfl rfl ?_
  refine Re rfl ?_
  refine thenQ_n ?_
  refine W_seq rfl ?_
  refine W_block rfl ?_
  refine LoopTo (T' := [(6, .ptr 0 0), (10, i64 0), (11, i64 ((cntQ n ks : Nat) : Int)), (13, i64 ((0 : Nat) : Int)), (14, i64 (((cntQ n ks) : Nat) : Int))]) (H' := [(0, some (.cells [i64 0, i64 0] 40))]) (n := 1) rfl (fun mz_ qz_ => ∃ (x : Nat) (y : Nat), Nat.gcd x y = Nat.gcd 0 (cntQ n ks) ∧ x ≤ 3628800 ∧ y ≤ 3628800 ∧ (0 < x ∨ 0 < y) ∧ mz_ = 0 + y ∧ qz_ = ⟨[(6, .ptr 0 0), (10, i64 0), (11, i64 ((cntQ n ks : Nat) : Int)), (13, i64 ((x : Nat) : Int)), (14, i64 ((y : Nat) : Int))], [(0, some (.cells [i64 0, i64 0] 40))], 1, []⟩) ⟨0, cntQ n ks, rfl, (by omega), (by omega), (by omega), rfl, rfl⟩ id ⟨e_ rfl rfl, eD rfl rfl, eD rfl rfl, eD rfl rfl, eD rfl rfl, trivial⟩ ⟨rD rfl rfl rfl, trivial⟩ rfl rfl rfl rfl (fun _ _ => rfl) ?_
  rintro _ _ ⟨x, y, hi0_0, hi0_1, hi0_2, hi0_3, rfl, rfl⟩
  refine W_seq rfl ?_
  refine W_seq rfl ?_
  refine W_reg rfl ?_
  refine Rv rfl rfl rfl (U_move rfl) rfl rfl ?_
  refine Rv rfl rfl rfl (U_neq rfl rfl) rfl rfl ?_
  refine Re rfl ?_
  refine thenQ_n ?_
  refine WcondP rfl rfl (fun hc2 => ?_) (fun hc2 => ?_)
  · refine W_skip rfl ?_
    refine thenQ_n ?_
    refine W_block rfl ?_
    refine Wdraw rfl (by kernel_rfl) (by kernel_rfl) ?_
    refine Dv rfl rfl rfl (U_move rfl) rfl rfl ?_
    refine Dv rfl rfl rfl (U_move rfl) rfl rfl ?_
    refine Dv rfl rfl rfl (U_move rfl) rfl rfl ?_
    refine Dv rfl rfl rfl (U_rem (c := ((x % y : Nat) : Int)) rfl rfl (by omega) (tmodN _ _)) rfl rfl ?_
    refine Dv rfl rfl rfl (U_assign rfl) rfl rfl ?_
    refine Dv rfl rfl rfl (U_assign rfl) rfl rfl ?_
    refine Dr.nil rfl ?_
    refine blkQ_n ?_
    refine thenQ_n ?_
    exact againTo (T' := [(6, .ptr 0 0), (10, i64 0), (11, i64 ((cntQ n ks : Nat) : Int)), (13, i64 ((y : Nat) : Int)), (14, i64 (((x % y) : Nat) : Int))]) (H' := [(0, some (.cells [i64 0, i64 0] 40))]) (n := 1) (0 + (x % y)) ⟨y, x % y, (by rw [gcd_step]; exact hi0_0), (by omega), (by have := Nat.mod_lt x (show y > 0 by omega); omega), (by omega), rfl, rfl⟩ (by have := Nat.mod_lt x (show y > 0 by omega); omega) id ⟨e_ rfl rfl, eD rfl rfl, eD rfl rfl, eD rfl rfl, eD rfl rfl, trivial⟩ ⟨rD rfl rfl rfl, trivial⟩ rfl rfl rfl rfl (fun _ _ => rfl)
  · rw [Decidable.not_not] at hc2
    have hy : y = 0 := by omega
    subst hy
    rw [Nat.gcd_zero_right] at hi0_0
    refine W_exit rfl ?_
    refine thenQ_x ?_
    refine thenQ_x ?_
    refine blkQ_x rfl ?_
    refine thenQ_n ?_
    refine W_seq rfl ?_
    refine Wdraw rfl (by kernel_rfl) (by kernel_rfl) ?_
    refine Dv rfl rfl rfl (U_move rfl) rfl rfl ?_
    refine Dv rfl rfl rfl (U_move rfl) rfl rfl ?_
    refine Dv rfl rfl rfl (U_quo (c := ((0 / x : Nat) : Int)) rfl rfl (by omega) (wquoN (a := 0) (by omega))) rfl rfl ?_
    refine Dv rfl rfl rfl (U_move rfl) rfl rfl ?_
    refine Dv rfl rfl rfl (U_move rfl) rfl rfl ?_
    refine Dv rfl rfl rfl (U_quo (c := (((cntQ n ks) / x : Nat) : Int)) rfl rfl (by omega) (wquoN (by omega))) rfl rfl ?_
    refine Dv rfl rfl rfl (U_build rfl rfl) rfl rfl ?_
    refine Dn_ rfl rfl rfl (U_storeAll rfl rfl rfl rfl rfl rfl) rfl rfl ?_
    refine Dv rfl rfl rfl (U_assign rfl) rfl rfl ?_
    refine Dr.nil rfl ?_
    refine thenQ_n ?_
    refine W_ret rfl ?_
    exact retL (rlA rfl rfl rfl (rlT rfl rl0)) (by first | rfl | (simp only [packA]; rw [frN, frD, ← hi0_0]; first | done | rfl)) rfl
end Go.Proofs.Ythmibifghihdaaa
end

section
namespace Go.Proofs.Ythmibifghihdaaa
set_option maxRecDepth 20000
open Go.AE
theorem idx_at {q : List Nat} (hn : q.Nodup) {i : Nat} (hi : i < q.length) : idxI (fun y => decide (q[i] = y)) q = i :=
  idx_hit hi (fun j hj h => by
    have := List.pairwise_iff_getElem.1 hn j i hj hi h
    simp; exact fun e => this e.symm) (by simp)
end Go.Proofs.Ythmibifghihdaaa
end

section
namespace Go.Proofs.Ythmibifghihdaaa
set_option maxRecDepth 20000
open Go.AE
theorem bfL_S {n : Nat} {ks : List (Nat × Nat)} {k : Nat} (h : k < ks.length) : bfL n (ks.take (k + 1)) = (bfL n (ks.take k)).set ks[k].2 ((bfL n (ks.take k)).getD ks[k].2 0 ||| 1 <<< ks[k].1) := by
  unfold bfL; rw [List.take_succ_eq_append_getElem h, List.foldl_append]; rfl
theorem bf_ok : ∀ (ks : List (Nat × Nat)) (o : List Nat), (∀ x ∈ o, x < 1024) → (∀ p ∈ ks, p.1 < 10) → (ks.foldl (fun o p => o.set p.2 (o.getD p.2 0 ||| 1 <<< p.1)) o).length = o.length ∧ ∀ x ∈ ks.foldl (fun o p => o.set p.2 (o.getD p.2 0 ||| 1 <<< p.1)) o, x < 1024
  | [], o, h, _ => ⟨rfl, h⟩
  | p :: ks, o, h, hk => by
    have h1 : o.getD p.2 0 < 1024 := by
      by_cases e : p.2 < o.length
      · rw [getD_eq e]; exact h _ (List.getElem_mem _)
      · rw [List.getD_eq_getElem?_getD, List.getElem?_eq_none (by omega)]; decide
    have := bf_ok ks (o.set p.2 (o.getD p.2 0 ||| 1 <<< p.1)) (fun x hx => by
      rcases List.mem_or_eq_of_mem_set hx with hx | rfl
      · exact h x hx
      · exact or1024 h1 (shl1024 (hk p (by simp)))) fun q hq => hk q (by simp [hq])
    rw [List.length_set] at this
    exact this
section
variable {n : Nat} {ks : List (Nat × Nat)}
theorem bfL_len (hv : VB n ks) (k : Nat) : (bfL n (ks.take k)).length = n := by
  have := (bf_ok (ks.take k) (List.replicate n 0) (by simp) fun p hp => (vb10 hv p (List.mem_of_mem_take hp)).1).1
  simpa [bfL] using this
theorem bfL_lt (hv : VB n ks) (k : Nat) : ∀ x ∈ bfL n (ks.take k), x < 1024 := (bf_ok (ks.take k) (List.replicate n 0) (by simp) fun p hp => (vb10 hv p (List.mem_of_mem_take hp)).1).2
theorem bfL_len' (hv : VB n ks) : (bfL n ks).length = n := by have := bfL_len hv ks.length; rwa [List.take_length] at this
theorem bfL_lt' (hv : VB n ks) : ∀ x ∈ bfL n ks, x < 1024 := by have := bfL_lt hv ks.length; rwa [List.take_length] at this
end
section
variable {n : Nat} {nx : Nat → Nat → Bool}
def upK (n : Nat) (nx : Nat → Nat → Bool) (s k : Nat) : List Nat := (List.range (1 <<< n)).map fun j => Wp n nx s j + ((List.range k).map fun a => if (nx s a && decide (ad s a = j)) = true then up n nx s else 0).sum
theorem upK_len {s k : Nat} : (upK n nx s k).length = 1 <<< n := by simp [upK]
theorem upK_at {s k j : Nat} (h : j < (upK n nx s k).length) : (upK n nx s k)[j] = Wp n nx s j + ((List.range k).map fun a => if (nx s a && decide (ad s a = j)) = true then up n nx s else 0).sum := by simp [upK]
theorem upK_0 : (List.replicate (1 <<< n) 0).set 0 1 = upK n nx 0 0 := by
  refine List.ext_getElem (by simp [upK]) fun j h1 h2 => ?_
  rw [upK_at, List.getElem_set, Wp_0]
  by_cases e : j = 0
  · subst e; simp
  · simp [e, show ¬ 0 = j by omega]
theorem upK_all (hx : Nxt nx) {s : Nat} : upK n nx s n = upK n nx (s + 1) 0 := by
  refine List.ext_getElem (by simp [upK]) fun j h1 h2 => ?_
  rw [upK_at, upK_at, Wp_S hx]; simp
theorem upK_self (hx : Nxt nx) {s k : Nat} (hs : s < 2 ^ n) (h : s < (upK n nx s k).length) : (upK n nx s k)[s] = up n nx s := by
  rw [upK_at, Wp_end hs (Nat.le_refl _)]
  have : ((List.range k).map fun a => if (nx s a && decide (ad s a = s)) = true then up n nx s else 0) = (List.range k).map fun _ => 0 := List.map_congr_left fun a _ => by
    rw [if_neg]
    intro h
    simp only [Bool.and_eq_true, decide_eq_true_eq] at h
    have := ad_gt (hx _ _ h.1); omega
  rw [this]
  have e : ∀ (l : List Nat), (l.map fun _ => 0).sum = 0 := fun l => by induction l with | nil => rfl | cons x l ih => simpa using ih
  rw [e]; omega
theorem upK_T (hx : Nxt nx) {s k : Nat} (hs : s < 2 ^ n) (h : nx s k = true) {u v : Nat} (hi : ad s k < (upK n nx s k).length) (hu : u = (upK n nx s k)[ad s k]) (hv : v = up n nx s) : (upK n nx s k).set (ad s k) (u + v) = upK n nx s (k + 1) := by
  refine List.ext_getElem (by simp [upK]) fun j h1 h2 => ?_
  rw [List.getElem_set]
  split
  · rename_i e; subst e
    rw [hu, hv, upK_at, upK_at, List.range_succ, List.map_append, List.sum_append]; simp [h]; omega
  · rename_i e
    rw [upK_at, upK_at, List.range_succ, List.map_append, List.sum_append]; simp [e]
theorem upK_F {s k : Nat} (h : nx s k = false) : upK n nx s k = upK n nx s (k + 1) := by
  refine List.ext_getElem (by simp [upK]) fun j h1 h2 => ?_
  rw [upK_at, upK_at, List.range_succ, List.map_append, List.sum_append]; simp [h]
theorem upK_le (hn : n ≤ 10) (hx : Nxt nx) {s k j : Nat} (hk : k ≤ n) (hj : j < 2 ^ n) (h : j < (upK n nx s k).length) : (upK n nx s k)[j] ≤ 3628800 := by
  rw [upK_at]
  have h1 := Wp_mono (nx := nx) (s := s + 1) hj
  rw [Wp_S hx] at h1
  have h2 : ((List.range k).map fun a => if (nx s a && decide (ad s a = j)) = true then up n nx s else 0).sum ≤ ((List.range n).map fun a => if (nx s a && decide (ad s a = j)) = true then up n nx s else 0).sum := by
    obtain ⟨d, rfl⟩ : ∃ d, n = k + d := ⟨n - k, by omega⟩
    rw [List.range_add, List.map_append, List.sum_append]; omega
  exact Nat.le_trans (Nat.le_trans (Nat.add_le_add_left h2 _) h1) (up_lt hn hj)
theorem upK_end {j : Nat} (hj : j < 2 ^ n) (h : j < (upK n nx (1 <<< n) 0).length) : (upK n nx (1 <<< n) 0)[j] = up n nx j := by
  rw [upK_at, Wp_end hj (by rw [one_shl]; omega)]; simp
def enR (n : Nat) (nx : Nat → Nat → Bool) (m k : Nat) : Nat := if m = full n then 1 else enP n nx m ((List.range k).filter (nx m))
def enK (n : Nat) (nx : Nat → Nat → Bool) (m k : Nat) : List Nat := (enV n nx (m + 1)).set m (enR n nx m k)
theorem enK_len {m k : Nat} : (enK n nx m k).length = 1 <<< n := by simp [enK, enV_len]
theorem enK_0 {m : Nat} (hm : m < 2 ^ n) : enK n nx m 0 = enV n nx (min (m + 1) (full n)) := by
  refine List.ext_getElem (by simp [enK, enV_len]) fun j h1 h2 => ?_
  have hj : j < 2 ^ n := by rw [enK_len] at h1; rwa [← one_shl (n := n)]
  have hf : full n = 2 ^ n - 1 := rfl
  simp only [enK]
  rw [List.getElem_set]
  split
  · rename_i e; subst e
    rw [enV_at]
    unfold enR
    split
    · rename_i e2; rw [if_pos (by omega)]; conv => rhs; rw [e2]
      exact en_full.symm
    · rename_i e2; rw [if_neg (by omega)]; rfl
  · rename_i e
    rw [enV_at, enV_at]
    by_cases h3 : m + 1 ≤ j
    · rw [if_pos h3, if_pos (by omega)]
    · rw [if_neg h3, if_neg (by omega)]
theorem enR_all (hx : Nxt nx) {m : Nat} (hm : m < 2 ^ n) : enR n nx m n = en n nx m := by
  unfold enR
  split
  · rename_i e; subst e; exact en_full.symm
  · rename_i e
    rw [enP, sum_filter, en_eq hx hm e]
theorem enK_all (hx : Nxt nx) {m : Nat} (hm : m < 2 ^ n) : enK n nx m n = enV n nx (min m (full n)) := by
  rw [enK, enR_all hx hm, enV_set]
  have : full n = 2 ^ n - 1 := rfl
  rw [Nat.min_eq_left (by omega)]
theorem enR_T {m k : Nat} (hne : m ≠ full n) (h : nx m k = true) : enR n nx m (k + 1) = enR n nx m k + en n nx (ad m k) := by
  unfold enR
  rw [if_neg hne, if_neg hne, List.range_succ, List.filter_append]
  simp [enP, h]
theorem enR_F {m k : Nat} (h : nx m k = false) : enR n nx m (k + 1) = enR n nx m k := by
  unfold enR
  rw [List.range_succ, List.filter_append]
  simp [h]
theorem enK_T {m k : Nat} (hne : m ≠ full n) (h : nx m k = true) {u v : Nat} (hu : u = enR n nx m k) (hv : v = en n nx (ad m k)) : (enK n nx m k).set m (u + v) = enK n nx m (k + 1) := by
  rw [hu, hv, ← enR_T hne h, enK, enK, List.set_set]
theorem enK_F {m k : Nat} (h : nx m k = false) : enK n nx m k = enK n nx m (k + 1) := by rw [enK, enK, enR_F h]
theorem enR_le (hn : n ≤ 10) (hx : Nxt nx) {m k : Nat} (hm : m < 2 ^ n) (hk : k ≤ n) : enR n nx m k ≤ 3628800 := by
  have h1 := en_lt hx hn hm
  rw [← enR_all hx hm] at h1
  have h2 : enR n nx m k ≤ enR n nx m n := by
    unfold enR
    split
    · exact Nat.le_refl _
    · obtain ⟨d, rfl⟩ : ∃ d, n = k + d := ⟨n - k, by omega⟩
      rw [List.range_add, List.filter_append, enP, enP, List.map_append, List.sum_append]; omega
  omega
theorem enK_at1 {m k : Nat} (h : m < (enK n nx m k).length) : (enK n nx m k)[m] = enR n nx m k := by simp [enK]
theorem enK_at2 {m k j : Nat} (h : m < j) (hj : j < (enK n nx m k).length) : (enK n nx m k)[j] = en n nx j := by
  simp only [enK]
  rw [List.getElem_set_ne (by omega), enV_at, if_pos (by omega)]
theorem nx_full (hx : Nxt nx) {k : Nat} (hk : k < n) : nx (full n) k = false := by
  cases e : nx (full n) k with
  | false => rfl
  | true => have := hx _ _ e; rw [full_tb] at this; simp at this; omega
end
end Go.Proofs.Ythmibifghihdaaa
end

section
namespace Go.Proofs.Ythmibifghihdaaa
set_option maxRecDepth 20000
open Go.AE
theorem before_p (n : Nat) (ks : List (Nat × Nat)) (c : Option Nat) (hv : VB n ks) : Pure Try.prog 66 [bknA n ks c] (.ros ((bfL n ks).map n64) n none) := by
  have hv' := hv
  obtain ⟨hn1, hn, hkl, hk⟩ := hv'
  have h1024 := shl_le hn
  have h2n := shl_ge hn1
  refine pure_of_body Try.func66 (c := body Try.f66) rfl (by simp [Try.ntmps66]) fun w0 Φ0 => ?_
  refine W_seq rfl ?_
  refine W_reg rfl ?_
  refine Rv rfl rfl rfl (U_boxF rfl rfl rfl) rfl rfl ?_
  refine Rv rfl rfl rfl (U_assign rfl) rfl rfl ?_
  refine Re rfl ?_
  refine thenQ_n ?_
  refine W_seq rfl ?_
  refine W_reg rfl ?_
  refine Rv rfl rfl rfl (U_fieldAddrR rfl) rfl rfl ?_
  refine Rv rfl rfl rfl (U_load1 rfl rfl rfl) rfl rfl ?_
  refine Ra rfl rfl rfl (U_mkL (n := n) (cs' := (List.replicate n (0 : Nat)).map n64) rfl rfl rfl (by omega) (replM rfl _)) rfl rfl rfl ?_
  refine Rv rfl rfl rfl (U_assign rfl) rfl rfl ?_
  refine Re rfl ?_
  refine thenQ_n ?_
  refine W_seq rfl ?_
  refine W_seq rfl ?_
  refine W_reg rfl ?_
  refine Rv rfl rfl rfl (U_assign rfl) rfl rfl ?_
  refine Re rfl ?_
  refine thenQ_n ?_
  refine W_block rfl ?_
  refine LoopTo (T' := [(1, .rop [i64 ((n : Nat) : Int), .ros (ks.flatMap lkN) ks.length c] 0), (3, .slice 0 0 n n), (4, i64 ((0 : Nat) : Int))]) (H' := [(0, some (.cells ((bfL n (ks.take 0)).map n64) 3))]) (n := 1) rfl (fun mz_ qz_ => ∃ (k : Nat), k ≤ ks.length ∧ mz_ = ks.length - k ∧ qz_ = ⟨[(1, .rop [i64 ((n : Nat) : Int), .ros (ks.flatMap lkN) ks.length c] 0), (3, .slice 0 0 n n), (4, i64 ((k : Nat) : Int))], [(0, some (.cells ((bfL n (ks.take k)).map n64) 3))], 1, []⟩) ⟨0, (by omega), rfl, rfl⟩ id ⟨eD rfl rfl, e_ rfl rfl, eD rfl rfl, trivial⟩ ⟨rD (mapD (fun _ => rfl) _) rfl rfl, trivial⟩ rfl rfl rfl rfl (fun _ _ => rfl) ?_
  rintro _ _ ⟨k, hi0_0, rfl, rfl⟩
  refine W_seq rfl ?_
  refine W_seq rfl ?_
  refine W_reg rfl ?_
  refine Rv rfl rfl rfl (U_move rfl) rfl rfl ?_
  refine Rv rfl rfl rfl (U_fieldAddrR rfl) rfl rfl ?_
  refine Rv rfl rfl rfl (U_load1 rfl rfl rfl) rfl rfl ?_
  refine Rv rfl rfl rfl (U_lenOf rfl len_ros) rfl rfl ?_
  refine Rv rfl rfl rfl (U_lss rfl rfl) rfl rfl ?_
  refine Re rfl ?_
  refine thenQ_n ?_
  refine WcondP rfl rfl (fun hc0 => ?_) (fun hc0 => ?_)
  · have hck : k < ks.length := by omega
    have hkp := hk _ (List.getElem_mem hck)
    have hbl := bfL_len hv k
    have hbi : ks[k].2 < (bfL n (ks.take k)).length := by omega
    have hbx : (bfL n (ks.take k))[ks[k].2] < 1024 := bfL_lt hv k _ (List.getElem_mem _)
    refine W_skip rfl ?_
    refine thenQ_n ?_
    refine W_seq rfl ?_
    refine W_block rfl ?_
    refine Wdraw rfl (by kernel_rfl) (by kernel_rfl) ?_
    refine Dv rfl rfl rfl (U_move rfl) rfl rfl ?_
    refine Dv rfl rfl rfl (U_fieldAddrR rfl) rfl rfl ?_
    refine Dv rfl rfl rfl (U_load1 rfl rfl rfl) rfl rfl ?_
    refine Dv rfl rfl rfl (U_move rfl) rfl rfl ?_
    have hx1 : k < ks.length := by omega
    refine Dv rfl rfl rfl (U_indexR (j := k) rfl rfl rfl hx1) rfl rfl ?_
    refine Dv rfl rfl rfl (U_indexAR (j := 1) rfl rfl rfl (by decide)) rfl rfl ?_
    refine Dv rfl rfl rfl (U_load1 rfl rfl (lkH1 hx1)) rfl rfl ?_
    have hx2 : ks[k].2 < (bfL n (ks.take k)).length := by omega
    refine Dv rfl rfl rfl (U_indexS (j := ks[k].2) rfl rfl rfl (by omega)) rfl rfl ?_
    refine Dv rfl rfl rfl (U_load1 rfl rfl (getM0 hx2)) rfl rfl ?_
    refine Dv rfl rfl rfl (U_fieldAddrR rfl) rfl rfl ?_
    refine Dv rfl rfl rfl (U_load1 rfl rfl rfl) rfl rfl ?_
    refine Dv rfl rfl rfl (U_move rfl) rfl rfl ?_
    refine Dv rfl rfl rfl (U_indexR (j := k) rfl rfl rfl hx1) rfl rfl ?_
    refine Dv rfl rfl rfl (U_indexAR (j := 0) rfl rfl rfl (by decide)) rfl rfl ?_
    refine Dv rfl rfl rfl (U_load1 rfl rfl (lkH0 hx1)) rfl rfl ?_
    refine Dv rfl rfl rfl (U_shl rfl rfl (by omega) (shlN (n := 1) (i := ks[k].1) (shl63 (by omega)) (by omega))) rfl rfl ?_
    refine Dv rfl rfl rfl (U_or rfl rfl (orN (a := (bfL n (ks.take k))[ks[k].2]) (b := 1 <<< ks[k].1) (lt63 hbx) (lt63 (shl1024 (by omega))))) rfl rfl ?_
    refine Dv rfl rfl rfl (U_indexS (j := ks[k].2) rfl rfl rfl (by omega)) rfl rfl ?_
    refine Dn_ rfl rfl rfl (U_store (n := 1) (cs' := ((bfL n (ks.take k)).set ks[k].2 (((bfL n (ks.take k))[ks[k].2]) ||| (1 <<< ks[k].1))).map n64) rfl rfl rfl rfl rfl (stLt hx2) rfl setM) rfl rfl ?_
    refine Dr.nil rfl ?_
    refine blkQ_n ?_
    refine thenQ_n ?_
    refine W_reg rfl ?_
    refine Rv rfl rfl rfl (U_move rfl) rfl rfl ?_
    refine Rv rfl rfl rfl (U_add rfl rfl (w64e (m := ((k + 1 : Nat) : Int)) (by omega) (by omega) (by omega))) rfl rfl ?_
    refine Rv rfl rfl rfl (U_assign rfl) rfl rfl ?_
    refine Re rfl ?_
    refine thenQ_n ?_
    rw [← getD_eq (d := 0) hbi]
    rw [← bfL_S hck]
    exact againTo (T' := [(1, .rop [i64 ((n : Nat) : Int), .ros (ks.flatMap lkN) ks.length c] 0), (3, .slice 0 0 n n), (4, i64 (((k + 1) : Nat) : Int))]) (H' := [(0, some (.cells ((bfL n (ks.take (k + 1))).map n64) 3))]) (n := 1) (ks.length - (k + 1)) ⟨k + 1, (by omega), rfl, rfl⟩ (by omega) id ⟨eD rfl rfl, e_ rfl rfl, eD rfl rfl, trivial⟩ ⟨rD (mapD (fun _ => rfl) _) rfl rfl, trivial⟩ rfl rfl rfl rfl (fun _ _ => rfl)
  · obtain rfl : k = ks.length := by omega
    rw [List.take_length]
    refine W_exit rfl ?_
    refine thenQ_x ?_
    refine thenQ_x ?_
    refine blkQ_x rfl ?_
    refine thenQ_n ?_
    refine W_seq rfl ?_
    refine W_reg rfl ?_
    refine Rv rfl rfl rfl (U_move rfl) rfl rfl ?_
    refine Rv rfl rfl rfl (U_assign rfl) rfl rfl ?_
    refine Re rfl ?_
    refine thenQ_n ?_
    refine WfrN 0 rfl (mapD (fun _ => rfl) _) (T' := [(2, .ros ((bfL n ks).map n64) n (some n))]) (H' := []) ⟨⟨_, rfl, fr_sl (Nat.le_refl _)⟩, trivial⟩ trivial ?_
    refine WweakT (j := 2) rfl le_cap ?_
    refine W_ret rfl ?_
    exact retL (rlT rfl rl0) rfl rfl
end Go.Proofs.Ythmibifghihdaaa
end

section
namespace Go.Proofs.Ythmibifghihdaaa
set_option maxRecDepth 20000
open Go.AE
theorem ways_p (n : Nat) (ks : List (Nat × Nat)) (c : Option Nat) (hv : VB n ks) : Pure Try.prog 67 [bknA n ks c] (.tup [.ros ((upK n (nxQ n ks) (1 <<< n) 0).map n64) (1 <<< n) none, .ros ((enV n (nxQ n ks) 0).map n64) (1 <<< n) none]) := by
  have hv' := hv
  obtain ⟨hn1, hn, hkl, hk⟩ := hv'
  have h1024 := shl_le hn
  have h2n := shl_ge hn1
  have hx : Nxt (nxQ n ks) := nxR_nxt (bfN n ks)
  have hbl := bfL_len' hv
  have hmin : 1 <<< n - 1 = min (1 <<< n) (full n) := by rw [full_shl]; omega
  refine pure_of_body Try.func67 (c := body Try.f67) rfl (by simp [Try.ntmps67]) fun w0 Φ0 => ?_
  refine W_seq rfl ?_
  refine W_reg rfl ?_
  refine Rv rfl rfl rfl (U_boxF rfl rfl rfl) rfl rfl ?_
  refine Rv rfl rfl rfl (U_assign rfl) rfl rfl ?_
  refine Rv rfl rfl rfl (U_assign rfl) rfl rfl ?_
  refine Re rfl ?_
  refine thenQ_n ?_
  refine W_seq rfl ?_
  refine W_reg rfl ?_
  refine Rv rfl rfl rfl (U_load2 rfl rfl rfl rfl) rfl rfl ?_
  refine Rv rfl rfl rfl (U_call rfl rfl (before_p n ks c hv) rfl) rfl rfl ?_
  refine Rv rfl rfl rfl (U_assign rfl) rfl rfl ?_
  refine Re rfl ?_
  refine thenQ_n ?_
  refine W_seq rfl ?_
  refine W_reg rfl ?_
  refine Rv rfl rfl rfl (U_fieldAddrR rfl) rfl rfl ?_
  refine Rv rfl rfl rfl (U_load1 rfl rfl rfl) rfl rfl ?_
  refine Rv rfl rfl rfl (U_shl rfl rfl (by omega) (shlN (n := 1) (i := n) (shl63' hn) (by omega))) rfl rfl ?_
  refine Rv rfl rfl rfl (U_assign rfl) rfl rfl ?_
  refine Re rfl ?_
  refine thenQ_n ?_
  refine W_seq rfl ?_
  refine Wdraw rfl (by kernel_rfl) (by kernel_rfl) ?_
  refine Dv rfl rfl rfl (U_move rfl) rfl rfl ?_
  refine Da rfl rfl rfl (U_mkL (n := 1 <<< n) (cs' := (List.replicate (1 <<< n) (0 : Nat)).map n64) rfl rfl rfl (by omega) (replM rfl _)) rfl rfl rfl rfl ?_
  refine Dv rfl rfl rfl (U_move rfl) rfl rfl ?_
  refine Da rfl rfl rfl (U_mkL (n := 1 <<< n) (cs' := (List.replicate (1 <<< n) (0 : Nat)).map n64) rfl rfl rfl (by omega) (replM rfl _)) rfl rfl rfl rfl ?_
  refine Dv rfl rfl rfl (U_assign rfl) rfl rfl ?_
  refine Dv rfl rfl rfl (U_assign rfl) rfl rfl ?_
  refine Dr.nil rfl ?_
  refine thenQ_n ?_
  refine W_seq rfl ?_
  refine W_reg rfl ?_
  refine Rv rfl rfl rfl (U_move rfl) rfl rfl ?_
  refine Rv rfl rfl rfl (U_move rfl) rfl rfl ?_
  refine Rv rfl rfl rfl (U_move rfl) rfl rfl ?_
  refine Rv rfl rfl rfl (U_sub rfl rfl (w64e (m := ((1 <<< n - 1 : Nat) : Int)) (by omega) (by omega) (by omega))) rfl rfl ?_
  have hr0 : (List.replicate (1 <<< n) 0).length = 1 <<< n := List.length_replicate
  have hx1 : 0 < (List.replicate (1 <<< n) (0 : Nat)).length := by omega
  refine Rv rfl rfl rfl (U_indexS (j := 0) rfl rfl rfl (by omega)) rfl rfl ?_
  refine Rn rfl rfl rfl (U_store (n := 1) (cs' := ((List.replicate (1 <<< n) (0 : Nat)).set 0 1).map n64) rfl rfl rfl rfl rfl (stLt hx1) rfl setM) rfl ?_
  have hx2 : (1 <<< n - 1) < (List.replicate (1 <<< n) (0 : Nat)).length := by omega
  refine Rv rfl rfl rfl (U_indexS (j := (1 <<< n - 1)) rfl rfl rfl (by omega)) rfl rfl ?_
  refine Rn rfl rfl rfl (U_store (n := 1) (cs' := ((List.replicate (1 <<< n) (0 : Nat)).set (1 <<< n - 1) 1).map n64) rfl rfl rfl rfl rfl (stLt hx2) rfl setM) rfl ?_
  refine Re rfl ?_
  rw [upK_0 (n := n) (nx := (nxQ n ks)), enV_0 (n := n) (nx := (nxQ n ks)), hmin]
  refine thenQ_n ?_
  refine W_seq rfl ?_
  refine W_seq rfl ?_
  refine W_reg rfl ?_
  refine Rv rfl rfl rfl (U_assign rfl) rfl rfl ?_
  refine Re rfl ?_
  refine thenQ_n ?_
  refine W_block rfl ?_
  refine LoopTo (T' := [(1, .rop [i64 ((n : Nat) : Int), .ros (ks.flatMap lkN) ks.length c] 0), (4, .ros ((bfL n ks).map n64) n none), (5, i64 ((1 <<< n : Nat) : Int)), (6, .slice 0 0 (1 <<< n) (1 <<< n)), (7, .slice 1 0 (1 <<< n) (1 <<< n)), (8, i64 ((0 : Nat) : Int))]) (H' := [(0, some (.cells ((upK n (nxQ n ks) 0 0).map n64) 2)), (1, some (.cells ((enV n (nxQ n ks) (min (1 <<< n) (full n))).map n64) 2))]) (n := 2) rfl (fun mz_ qz_ => ∃ (s : Nat), s ≤ 1 <<< n ∧ mz_ = 1 <<< n - s ∧ qz_ = ⟨[(1, .rop [i64 ((n : Nat) : Int), .ros (ks.flatMap lkN) ks.length c] 0), (4, .ros ((bfL n ks).map n64) n none), (5, i64 ((1 <<< n : Nat) : Int)), (6, .slice 0 0 (1 <<< n) (1 <<< n)), (7, .slice 1 0 (1 <<< n) (1 <<< n)), (8, i64 ((s : Nat) : Int))], [(0, some (.cells ((upK n (nxQ n ks) s 0).map n64) 2)), (1, some (.cells ((enV n (nxQ n ks) (min (1 <<< n) (full n))).map n64) 2))], 2, []⟩) ⟨0, (Nat.zero_le _), rfl, rfl⟩ id ⟨eD rfl rfl, eD rfl rfl, eD rfl rfl, e_ rfl rfl, e_ rfl rfl, eD rfl rfl, trivial⟩ ⟨rD (mapD (fun _ => rfl) _) rfl rfl, rD (mapD (fun _ => rfl) _) rfl rfl, trivial⟩ rfl rfl rfl rfl (fun _ _ => rfl) ?_
  rintro _ _ ⟨s, hi0_0, rfl, rfl⟩
  refine W_seq rfl ?_
  refine W_seq rfl ?_
  refine W_reg rfl ?_
  refine Rv rfl rfl rfl (U_move rfl) rfl rfl ?_
  refine Rv rfl rfl rfl (U_move rfl) rfl rfl ?_
  refine Rv rfl rfl rfl (U_lss rfl rfl) rfl rfl ?_
  refine Re rfl ?_
  refine thenQ_n ?_
  refine WcondP rfl rfl (fun hc0 => ?_) (fun hc0 => ?_)
  · have hs : s < 2 ^ n := by rw [← one_shl (n := n)]; omega
    refine W_skip rfl ?_
    refine thenQ_n ?_
    refine W_seq rfl ?_
    refine W_block rfl ?_
    refine W_seq rfl ?_
    refine W_reg rfl ?_
    refine Rv rfl rfl rfl (U_assign rfl) rfl rfl ?_
    refine Re rfl ?_
    refine thenQ_n ?_
    refine W_block rfl ?_
    refine LoopTo (T' := [(1, .rop [i64 ((n : Nat) : Int), .ros (ks.flatMap lkN) ks.length c] 0), (4, .ros ((bfL n ks).map n64) n none), (5, i64 ((1 <<< n : Nat) : Int)), (6, .slice 0 0 (1 <<< n) (1 <<< n)), (7, .slice 1 0 (1 <<< n) (1 <<< n)), (8, i64 ((s : Nat) : Int)), (9, i64 ((0 : Nat) : Int))]) (H' := [(0, some (.cells ((upK n (nxQ n ks) s 0).map n64) 2)), (1, some (.cells ((enV n (nxQ n ks) (min (1 <<< n) (full n))).map n64) 2))]) (n := 2) rfl (fun mz_ qz_ => ∃ (k : Nat), k ≤ n ∧ mz_ = n - k ∧ qz_ = ⟨[(1, .rop [i64 ((n : Nat) : Int), .ros (ks.flatMap lkN) ks.length c] 0), (4, .ros ((bfL n ks).map n64) n none), (5, i64 ((1 <<< n : Nat) : Int)), (6, .slice 0 0 (1 <<< n) (1 <<< n)), (7, .slice 1 0 (1 <<< n) (1 <<< n)), (8, i64 ((s : Nat) : Int)), (9, i64 ((k : Nat) : Int))], [(0, some (.cells ((upK n (nxQ n ks) s k).map n64) 2)), (1, some (.cells ((enV n (nxQ n ks) (min (1 <<< n) (full n))).map n64) 2))], 2, []⟩) ⟨0, (by omega), rfl, rfl⟩ id ⟨eD rfl rfl, eD rfl rfl, eD rfl rfl, e_ rfl rfl, e_ rfl rfl, eD rfl rfl, eD rfl rfl, trivial⟩ ⟨rD (mapD (fun _ => rfl) _) rfl rfl, rD (mapD (fun _ => rfl) _) rfl rfl, trivial⟩ rfl rfl rfl rfl (fun _ _ => rfl) ?_
    rintro _ _ ⟨k, hi1_0, rfl, rfl⟩
    refine W_seq rfl ?_
    refine W_seq rfl ?_
    refine W_reg rfl ?_
    refine Rv rfl rfl rfl (U_move rfl) rfl rfl ?_
    refine Rv rfl rfl rfl (U_fieldAddrR rfl) rfl rfl ?_
    refine Rv rfl rfl rfl (U_load1 rfl rfl rfl) rfl rfl ?_
    refine Rv rfl rfl rfl (U_lss rfl rfl) rfl rfl ?_
    refine Re rfl ?_
    refine thenQ_n ?_
    refine WcondP rfl rfl (fun hc1 => ?_) (fun hc1 => ?_)
    · have hkn : k < n := by omega
      have hbi : k < (bfL n ks).length := by omega
      have hbk : bfN n ks k = (bfL n ks)[k] := getD_eq hbi
      have hbx : (bfL n ks)[k] < 1024 := bfL_lt' hv _ (List.getElem_mem _)
      have h10 : s < 1024 := by omega
      refine W_skip rfl ?_
      refine thenQ_n ?_
      refine W_seq rfl ?_
      refine W_block rfl ?_
      refine W_seq rfl ?_
      refine Wdraw rfl (by kernel_rfl) (by kernel_rfl) ?_
      refine Dv rfl rfl rfl (U_move rfl) rfl rfl ?_
      refine Dv rfl rfl rfl (U_move rfl) rfl rfl ?_
      refine Dv rfl rfl rfl (U_shr rfl rfl (by omega) (shrN (n := s) (i := k) (lt63 h10))) rfl rfl ?_
      refine Dv rfl rfl rfl (U_and rfl rfl (andN (a := s >>> k) (b := 1) (sh63 h10) (by omega))) rfl rfl ?_
      refine Dv rfl rfl rfl (U_eql rfl rfl) rfl rfl ?_
      refine Dv rfl rfl rfl (U_move rfl) rfl rfl ?_
      refine Dsplit (t := 43) rfl (fun hg3 => ?_) (fun hg3 => ?_)
      · rw [hg3]
        have hg3' : (((s >>> k) &&& 1 : Nat) : Int) = 0 := of_decide_eq_true hg3
        have hcg1 := hg3'
        refine Dv rfl rfl rfl (U_move rfl) rfl rfl ?_
        refine Dv rfl rfl rfl (U_move rfl) rfl rfl ?_
        have hx4 : k < (bfL n ks).length := by omega
        refine Dv rfl rfl rfl (U_indexR (j := k) rfl rfl rfl (by omega)) rfl rfl ?_
        refine Dv rfl rfl rfl (U_load1 rfl rfl (getM hx4)) rfl rfl ?_
        refine Dv rfl rfl rfl (U_move rfl) rfl rfl ?_
        refine Dv rfl rfl rfl (U_and rfl rfl (andN (a := (bfL n ks)[k]) (b := s) (lt63 hbx) (lt63 h10))) rfl rfl ?_
        refine Dv rfl rfl rfl (U_move rfl) rfl rfl ?_
        refine Dv rfl rfl rfl (U_move rfl) rfl rfl ?_
        refine Dv rfl rfl rfl (U_indexR (j := k) rfl rfl rfl (by omega)) rfl rfl ?_
        refine Dv rfl rfl rfl (U_load1 rfl rfl (getM hx4)) rfl rfl ?_
        refine Dv rfl rfl rfl (U_eql rfl rfl) rfl rfl ?_
        refine Dv rfl rfl rfl (U_pick_t rfl rfl) rfl rfl ?_
        refine Dr.nil rfl ?_
        refine thenQ_n ?_
        refine WcondP rfl rfl (fun hc2 => ?_) (fun hc2 => ?_)
        · have hnx : nxQ n ks s k = true := by show nxR (bfN n ks) s k = true; unfold nxR; rw [hbk, decide_eq_true hcg1, decide_eq_true hc2]; rfl
          have had : s ||| 1 <<< k < 2 ^ n := ad_lt hs hkn
          have hadl : s ||| 1 <<< k < (upK n (nxQ n ks) s k).length := by rw [upK_len, one_shl (n := n)]; exact had
          have hsl : s < (upK n (nxQ n ks) s k).length := by rw [upK_len, one_shl (n := n)]; exact hs
          have hb1 := upK_le hn hx (show k ≤ n by omega) had hadl
          have hvs : (upK n (nxQ n ks) s k)[s] = up n (nxQ n ks) s := upK_self hx hs hsl
          have hb2 : up n (nxQ n ks) s ≤ 3628800 := up_lt hn hs
          refine Wdraw rfl (by kernel_rfl) (by kernel_rfl) ?_
          refine Dv rfl rfl rfl (U_move rfl) rfl rfl ?_
          refine Dv rfl rfl rfl (U_move rfl) rfl rfl ?_
          refine Dv rfl rfl rfl (U_move rfl) rfl rfl ?_
          refine Dv rfl rfl rfl (U_shl rfl rfl (by omega) (shlN (n := 1) (i := k) (shl63 (by omega)) (by omega))) rfl rfl ?_
          refine Dv rfl rfl rfl (U_or rfl rfl (orN (a := s) (b := 1 <<< k) (lt63 h10) (lt63 (shl1024 (by omega))))) rfl rfl ?_
          have hx5 : (s ||| (1 <<< k)) < (upK n (nxQ n ks) s k).length := by omega
          refine Dv rfl rfl rfl (U_indexS (j := (s ||| (1 <<< k))) rfl rfl rfl (by omega)) rfl rfl ?_
          refine Dv rfl rfl rfl (U_load1 rfl rfl (getM0 hx5)) rfl rfl ?_
          refine Dv rfl rfl rfl (U_move rfl) rfl rfl ?_
          refine Dv rfl rfl rfl (U_move rfl) rfl rfl ?_
          have hx6 : s < (upK n (nxQ n ks) s k).length := by omega
          refine Dv rfl rfl rfl (U_indexS (j := s) rfl rfl rfl (by omega)) rfl rfl ?_
          refine Dv rfl rfl rfl (U_load1 rfl rfl (getM0 hx6)) rfl rfl ?_
          refine Dv rfl rfl rfl (U_add rfl rfl (w64e (m := ((((upK n (nxQ n ks) s k)[(s ||| (1 <<< k))]) + (upK n (nxQ n ks) s k)[s] : Nat) : Int)) (by omega) (by omega) (by omega))) rfl rfl ?_
          refine Dv rfl rfl rfl (U_indexS (j := (s ||| (1 <<< k))) rfl rfl rfl (by omega)) rfl rfl ?_
          refine Dn_ rfl rfl rfl (U_store (n := 1) (cs' := ((upK n (nxQ n ks) s k).set (s ||| (1 <<< k)) (((upK n (nxQ n ks) s k)[(s ||| (1 <<< k))]) + (upK n (nxQ n ks) s k)[s])).map n64) rfl rfl rfl rfl rfl (stLt hx5) rfl setM) rfl rfl ?_
          refine Dr.nil rfl ?_
          refine blkQ_n ?_
          refine thenQ_n ?_
          refine W_reg rfl ?_
          refine Rv rfl rfl rfl (U_move rfl) rfl rfl ?_
          refine Rv rfl rfl rfl (U_add rfl rfl (w64e (m := ((k + 1 : Nat) : Int)) (by omega) (by omega) (by omega))) rfl rfl ?_
          refine Rv rfl rfl rfl (U_assign rfl) rfl rfl ?_
          refine Re rfl ?_
          refine thenQ_n ?_
          first | rw [upK_T hx hs hnx hadl rfl hvs] | rw [upK_F hnx]
          exact againTo (T' := [(1, .rop [i64 ((n : Nat) : Int), .ros (ks.flatMap lkN) ks.length c] 0), (4, .ros ((bfL n ks).map n64) n none), (5, i64 ((1 <<< n : Nat) : Int)), (6, .slice 0 0 (1 <<< n) (1 <<< n)), (7, .slice 1 0 (1 <<< n) (1 <<< n)), (8, i64 ((s : Nat) : Int)), (9, i64 (((k + 1) : Nat) : Int))]) (H' := [(0, some (.cells ((upK n (nxQ n ks) s (k + 1)).map n64) 2)), (1, some (.cells ((enV n (nxQ n ks) (min (1 <<< n) (full n))).map n64) 2))]) (n := 2) (n - (k + 1)) ⟨k + 1, (by omega), rfl, rfl⟩ (by omega) id ⟨eD rfl rfl, eD rfl rfl, eD rfl rfl, e_ rfl rfl, e_ rfl rfl, eD rfl rfl, eD rfl rfl, trivial⟩ ⟨rD (mapD (fun _ => rfl) _) rfl rfl, rD (mapD (fun _ => rfl) _) rfl rfl, trivial⟩ rfl rfl rfl rfl (fun _ _ => rfl)
        · have hnx : nxQ n ks s k = false := by show nxR (bfN n ks) s k = false; unfold nxR; rw [hbk, decide_eq_true hcg1, decide_eq_false hc2]; rfl
          refine W_skip rfl ?_
          refine blkQ_n ?_
          refine thenQ_n ?_
          refine W_reg rfl ?_
          refine Rv rfl rfl rfl (U_move rfl) rfl rfl ?_
          refine Rv rfl rfl rfl (U_add rfl rfl (w64e (m := ((k + 1 : Nat) : Int)) (by omega) (by omega) (by omega))) rfl rfl ?_
          refine Rv rfl rfl rfl (U_assign rfl) rfl rfl ?_
          refine Re rfl ?_
          refine thenQ_n ?_
          first | rw [upK_T hx hs hnx hadl rfl hvs] | rw [upK_F hnx]
          exact againTo (T' := [(1, .rop [i64 ((n : Nat) : Int), .ros (ks.flatMap lkN) ks.length c] 0), (4, .ros ((bfL n ks).map n64) n none), (5, i64 ((1 <<< n : Nat) : Int)), (6, .slice 0 0 (1 <<< n) (1 <<< n)), (7, .slice 1 0 (1 <<< n) (1 <<< n)), (8, i64 ((s : Nat) : Int)), (9, i64 (((k + 1) : Nat) : Int))]) (H' := [(0, some (.cells ((upK n (nxQ n ks) s (k + 1)).map n64) 2)), (1, some (.cells ((enV n (nxQ n ks) (min (1 <<< n) (full n))).map n64) 2))]) (n := 2) (n - (k + 1)) ⟨k + 1, (by omega), rfl, rfl⟩ (by omega) id ⟨eD rfl rfl, eD rfl rfl, eD rfl rfl, e_ rfl rfl, e_ rfl rfl, eD rfl rfl, eD rfl rfl, trivial⟩ ⟨rD (mapD (fun _ => rfl) _) rfl rfl, rD (mapD (fun _ => rfl) _) rfl rfl, trivial⟩ rfl rfl rfl rfl (fun _ _ => rfl)
      · rw [hg3]
        have hg3' : ¬ ((((s >>> k) &&& 1 : Nat) : Int) = 0) := of_decide_eq_false hg3
        have hnx : nxQ n ks s k = false := by show nxR (bfN n ks) s k = false; unfold nxR; rw [decide_eq_false hg3']; rfl
        refine Ds rfl rfl rfl rfl rfl ?_
        refine Ds rfl rfl rfl rfl rfl ?_
        refine Ds rfl rfl rfl rfl rfl ?_
        refine Ds rfl rfl rfl rfl rfl ?_
        refine Ds rfl rfl rfl rfl rfl ?_
        refine Ds rfl rfl rfl rfl rfl ?_
        refine Ds rfl rfl rfl rfl rfl ?_
        refine Ds rfl rfl rfl rfl rfl ?_
        refine Ds rfl rfl rfl rfl rfl ?_
        refine Ds rfl rfl rfl rfl rfl ?_
        refine Ds rfl rfl rfl rfl rfl ?_
        refine Dv rfl rfl rfl (U_pick_f rfl rfl) rfl rfl ?_
        refine Dr.nil rfl ?_
        refine thenQ_n ?_
        refine Wcond rfl rfl (fun h => nomatch h) (fun _ => ?_)
        refine W_skip rfl ?_
        refine blkQ_n ?_
        refine thenQ_n ?_
        refine W_reg rfl ?_
        refine Rv rfl rfl rfl (U_move rfl) rfl rfl ?_
        refine Rv rfl rfl rfl (U_add rfl rfl (w64e (m := ((k + 1 : Nat) : Int)) (by omega) (by omega) (by omega))) rfl rfl ?_
        refine Rv rfl rfl rfl (U_assign rfl) rfl rfl ?_
        refine Re rfl ?_
        refine thenQ_n ?_
        first | rw [upK_T hx hs hnx hadl rfl hvs] | rw [upK_F hnx]
        exact againTo (T' := [(1, .rop [i64 ((n : Nat) : Int), .ros (ks.flatMap lkN) ks.length c] 0), (4, .ros ((bfL n ks).map n64) n none), (5, i64 ((1 <<< n : Nat) : Int)), (6, .slice 0 0 (1 <<< n) (1 <<< n)), (7, .slice 1 0 (1 <<< n) (1 <<< n)), (8, i64 ((s : Nat) : Int)), (9, i64 (((k + 1) : Nat) : Int))]) (H' := [(0, some (.cells ((upK n (nxQ n ks) s (k + 1)).map n64) 2)), (1, some (.cells ((enV n (nxQ n ks) (min (1 <<< n) (full n))).map n64) 2))]) (n := 2) (n - (k + 1)) ⟨k + 1, (by omega), rfl, rfl⟩ (by omega) id ⟨eD rfl rfl, eD rfl rfl, eD rfl rfl, e_ rfl rfl, e_ rfl rfl, eD rfl rfl, eD rfl rfl, trivial⟩ ⟨rD (mapD (fun _ => rfl) _) rfl rfl, rD (mapD (fun _ => rfl) _) rfl rfl, trivial⟩ rfl rfl rfl rfl (fun _ _ => rfl)
    · obtain rfl : n = k := by omega
      rw [upK_all hx]
      refine W_exit rfl ?_
      refine thenQ_x ?_
      refine thenQ_x ?_
      refine blkQ_x rfl ?_
      refine blkQ_n ?_
      refine thenQ_n ?_
      refine W_reg rfl ?_
      refine Rv rfl rfl rfl (U_move rfl) rfl rfl ?_
      refine Rv rfl rfl rfl (U_add rfl rfl (w64e (m := ((s + 1 : Nat) : Int)) (by omega) (by omega) (by omega))) rfl rfl ?_
      refine Rv rfl rfl rfl (U_assign rfl) rfl rfl ?_
      refine Re rfl ?_
      refine thenQ_n ?_
      exact againTo (T' := [(1, .rop [i64 ((n : Nat) : Int), .ros (ks.flatMap lkN) ks.length c] 0), (4, .ros ((bfL n ks).map n64) n none), (5, i64 ((1 <<< n : Nat) : Int)), (6, .slice 0 0 (1 <<< n) (1 <<< n)), (7, .slice 1 0 (1 <<< n) (1 <<< n)), (8, i64 (((s + 1) : Nat) : Int))]) (H' := [(0, some (.cells ((upK n (nxQ n ks) (s + 1) 0).map n64) 2)), (1, some (.cells ((enV n (nxQ n ks) (min (1 <<< n) (full n))).map n64) 2))]) (n := 2) (1 <<< n - (s + 1)) ⟨s + 1, (by omega), rfl, rfl⟩ (by omega) id ⟨eD rfl rfl, eD rfl rfl, eD rfl rfl, e_ rfl rfl, e_ rfl rfl, eD rfl rfl, trivial⟩ ⟨rD (mapD (fun _ => rfl) _) rfl rfl, rD (mapD (fun _ => rfl) _) rfl rfl, trivial⟩ rfl rfl rfl rfl (fun _ _ => rfl)
  · obtain rfl : s = 1 <<< n := by omega
    refine W_exit rfl ?_
    refine thenQ_x ?_
    refine thenQ_x ?_
    refine blkQ_x rfl ?_
    refine thenQ_n ?_
    refine W_seq rfl ?_
    refine W_seq rfl ?_
    refine W_reg rfl ?_
    refine Rv rfl rfl rfl (U_move rfl) rfl rfl ?_
    refine Rv rfl rfl rfl (U_sub rfl rfl (w64 (by omega) (by omega))) rfl rfl ?_
    refine Rv rfl rfl rfl (U_assign rfl) rfl rfl ?_
    refine Re rfl ?_
    refine thenQ_n ?_
    refine W_block rfl ?_
    refine LoopTo (T' := [(1, .rop [i64 ((n : Nat) : Int), .ros (ks.flatMap lkN) ks.length c] 0), (4, .ros ((bfL n ks).map n64) n none), (6, .slice 0 0 (1 <<< n) (1 <<< n)), (7, .slice 1 0 (1 <<< n) (1 <<< n)), (10, i64 ((((1 <<< n) : Nat) : Int) - 1))]) (H' := [(0, some (.cells ((upK n (nxQ n ks) (1 <<< n) 0).map n64) 2)), (1, some (.cells ((enV n (nxQ n ks) (min (1 <<< n) (full n))).map n64) 2))]) (n := 2) rfl (fun mz_ qz_ => ∃ (s : Nat), s ≤ 1 <<< n ∧ mz_ = 0 + s ∧ qz_ = ⟨[(1, .rop [i64 ((n : Nat) : Int), .ros (ks.flatMap lkN) ks.length c] 0), (4, .ros ((bfL n ks).map n64) n none), (6, .slice 0 0 (1 <<< n) (1 <<< n)), (7, .slice 1 0 (1 <<< n) (1 <<< n)), (10, i64 (((s : Nat) : Int) - 1))], [(0, some (.cells ((upK n (nxQ n ks) (1 <<< n) 0).map n64) 2)), (1, some (.cells ((enV n (nxQ n ks) (min s (full n))).map n64) 2))], 2, []⟩) ⟨1 <<< n, (Nat.le_refl _), rfl, rfl⟩ id ⟨eD rfl rfl, eD rfl rfl, e_ rfl rfl, e_ rfl rfl, eD rfl rfl, trivial⟩ ⟨rD (mapD (fun _ => rfl) _) rfl rfl, rD (mapD (fun _ => rfl) _) rfl rfl, trivial⟩ rfl rfl rfl rfl (fun _ _ => rfl) ?_
    rintro _ _ ⟨s, hi2_0, rfl, rfl⟩
    refine W_seq rfl ?_
    refine W_seq rfl ?_
    refine W_reg rfl ?_
    refine Rv rfl rfl rfl (U_move rfl) rfl rfl ?_
    refine Rv rfl rfl rfl (U_geq rfl rfl) rfl rfl ?_
    refine Re rfl ?_
    refine thenQ_n ?_
    refine WcondP rfl rfl (fun hc3 => ?_) (fun hc3 => ?_)
    · obtain ⟨m, rfl⟩ : ∃ m, s = m + 1 := ⟨s - 1, by omega⟩
      have hm1 : ((m + 1 : Nat) : Int) - 1 = ((m : Nat) : Int) := by omega
      rw [hm1]
      have hm : m < 2 ^ n := by rw [← one_shl (n := n)]; omega
      rw [← enK_0 (n := n) (nx := (nxQ n ks)) hm]
      refine W_skip rfl ?_
      refine thenQ_n ?_
      refine W_seq rfl ?_
      refine W_block rfl ?_
      refine W_seq rfl ?_
      refine W_reg rfl ?_
      refine Rv rfl rfl rfl (U_assign rfl) rfl rfl ?_
      refine Re rfl ?_
      refine thenQ_n ?_
      refine W_block rfl ?_
      refine LoopTo (T' := [(1, .rop [i64 ((n : Nat) : Int), .ros (ks.flatMap lkN) ks.length c] 0), (4, .ros ((bfL n ks).map n64) n none), (6, .slice 0 0 (1 <<< n) (1 <<< n)), (7, .slice 1 0 (1 <<< n) (1 <<< n)), (10, i64 ((m : Nat) : Int)), (11, i64 ((0 : Nat) : Int))]) (H' := [(0, some (.cells ((upK n (nxQ n ks) (1 <<< n) 0).map n64) 2)), (1, some (.cells ((enK n (nxQ n ks) m 0).map n64) 2))]) (n := 2) rfl (fun mz_ qz_ => ∃ (k : Nat), k ≤ n ∧ mz_ = n - k ∧ qz_ = ⟨[(1, .rop [i64 ((n : Nat) : Int), .ros (ks.flatMap lkN) ks.length c] 0), (4, .ros ((bfL n ks).map n64) n none), (6, .slice 0 0 (1 <<< n) (1 <<< n)), (7, .slice 1 0 (1 <<< n) (1 <<< n)), (10, i64 ((m : Nat) : Int)), (11, i64 ((k : Nat) : Int))], [(0, some (.cells ((upK n (nxQ n ks) (1 <<< n) 0).map n64) 2)), (1, some (.cells ((enK n (nxQ n ks) m k).map n64) 2))], 2, []⟩) ⟨0, (by omega), rfl, rfl⟩ id ⟨eD rfl rfl, eD rfl rfl, e_ rfl rfl, e_ rfl rfl, eD rfl rfl, eD rfl rfl, trivial⟩ ⟨rD (mapD (fun _ => rfl) _) rfl rfl, rD (mapD (fun _ => rfl) _) rfl rfl, trivial⟩ rfl rfl rfl rfl (fun _ _ => rfl) ?_
      rintro _ _ ⟨k, hi3_0, rfl, rfl⟩
      refine W_seq rfl ?_
      refine W_seq rfl ?_
      refine W_reg rfl ?_
      refine Rv rfl rfl rfl (U_move rfl) rfl rfl ?_
      refine Rv rfl rfl rfl (U_fieldAddrR rfl) rfl rfl ?_
      refine Rv rfl rfl rfl (U_load1 rfl rfl rfl) rfl rfl ?_
      refine Rv rfl rfl rfl (U_lss rfl rfl) rfl rfl ?_
      refine Re rfl ?_
      refine thenQ_n ?_
      refine WcondP rfl rfl (fun hc4 => ?_) (fun hc4 => ?_)
      · have hkn : k < n := by omega
        have hbi : k < (bfL n ks).length := by omega
        have hbk : bfN n ks k = (bfL n ks)[k] := getD_eq hbi
        have hbx : (bfL n ks)[k] < 1024 := bfL_lt' hv _ (List.getElem_mem _)
        have h10 : m < 1024 := by omega
        refine W_skip rfl ?_
        refine thenQ_n ?_
        refine W_seq rfl ?_
        refine W_block rfl ?_
        refine W_seq rfl ?_
        refine Wdraw rfl (by kernel_rfl) (by kernel_rfl) ?_
        refine Dv rfl rfl rfl (U_move rfl) rfl rfl ?_
        refine Dv rfl rfl rfl (U_move rfl) rfl rfl ?_
        refine Dv rfl rfl rfl (U_shr rfl rfl (by omega) (shrN (n := m) (i := k) (lt63 h10))) rfl rfl ?_
        refine Dv rfl rfl rfl (U_and rfl rfl (andN (a := m >>> k) (b := 1) (sh63 h10) (by omega))) rfl rfl ?_
        refine Dv rfl rfl rfl (U_eql rfl rfl) rfl rfl ?_
        refine Dv rfl rfl rfl (U_move rfl) rfl rfl ?_
        refine Dsplit (t := 86) rfl (fun hg7 => ?_) (fun hg7 => ?_)
        · rw [hg7]
          have hg7' : (((m >>> k) &&& 1 : Nat) : Int) = 0 := of_decide_eq_true hg7
          have hcg1 := hg7'
          refine Dv rfl rfl rfl (U_move rfl) rfl rfl ?_
          refine Dv rfl rfl rfl (U_move rfl) rfl rfl ?_
          have hx8 : k < (bfL n ks).length := by omega
          refine Dv rfl rfl rfl (U_indexR (j := k) rfl rfl rfl (by omega)) rfl rfl ?_
          refine Dv rfl rfl rfl (U_load1 rfl rfl (getM hx8)) rfl rfl ?_
          refine Dv rfl rfl rfl (U_move rfl) rfl rfl ?_
          refine Dv rfl rfl rfl (U_and rfl rfl (andN (a := (bfL n ks)[k]) (b := m) (lt63 hbx) (lt63 h10))) rfl rfl ?_
          refine Dv rfl rfl rfl (U_move rfl) rfl rfl ?_
          refine Dv rfl rfl rfl (U_move rfl) rfl rfl ?_
          refine Dv rfl rfl rfl (U_indexR (j := k) rfl rfl rfl (by omega)) rfl rfl ?_
          refine Dv rfl rfl rfl (U_load1 rfl rfl (getM hx8)) rfl rfl ?_
          refine Dv rfl rfl rfl (U_eql rfl rfl) rfl rfl ?_
          refine Dv rfl rfl rfl (U_pick_t rfl rfl) rfl rfl ?_
          refine Dr.nil rfl ?_
          refine thenQ_n ?_
          refine WcondP rfl rfl (fun hc5 => ?_) (fun hc5 => ?_)
          · have hnx : nxQ n ks m k = true := by show nxR (bfN n ks) m k = true; unfold nxR; rw [hbk, decide_eq_true hcg1, decide_eq_true hc5]; rfl
            have had : m ||| 1 <<< k < 2 ^ n := ad_lt hm hkn
            have hgt : m < m ||| 1 <<< k := ad_gt (hx _ _ hnx)
            have hne : m ≠ full n := by { rintro rfl; rw [nx_full hx hkn] at hnx; cases hnx }
            have hadl : m ||| 1 <<< k < (enK n (nxQ n ks) m k).length := by rw [enK_len, one_shl (n := n)]; exact had
            have hml : m < (enK n (nxQ n ks) m k).length := by rw [enK_len, one_shl (n := n)]; exact hm
            have hu : (enK n (nxQ n ks) m k)[m] = enR n (nxQ n ks) m k := enK_at1 hml
            have hv_ : (enK n (nxQ n ks) m k)[m ||| 1 <<< k] = en n (nxQ n ks) (ad m k) := enK_at2 hgt hadl
            have hb1 := enR_le hn hx hm (show k ≤ n by omega)
            have hb2 : en n (nxQ n ks) (ad m k) ≤ 3628800 := en_lt hx hn had
            refine Wdraw rfl (by kernel_rfl) (by kernel_rfl) ?_
            refine Dv rfl rfl rfl (U_move rfl) rfl rfl ?_
            refine Dv rfl rfl rfl (U_move rfl) rfl rfl ?_
            have hx9 : m < (enK n (nxQ n ks) m k).length := by omega
            refine Dv rfl rfl rfl (U_indexS (j := m) rfl rfl rfl (by omega)) rfl rfl ?_
            refine Dv rfl rfl rfl (U_load1 rfl rfl (getM0 hx9)) rfl rfl ?_
            refine Dv rfl rfl rfl (U_move rfl) rfl rfl ?_
            refine Dv rfl rfl rfl (U_move rfl) rfl rfl ?_
            refine Dv rfl rfl rfl (U_move rfl) rfl rfl ?_
            refine Dv rfl rfl rfl (U_shl rfl rfl (by omega) (shlN (n := 1) (i := k) (shl63 (by omega)) (by omega))) rfl rfl ?_
            refine Dv rfl rfl rfl (U_or rfl rfl (orN (a := m) (b := 1 <<< k) (lt63 h10) (lt63 (shl1024 (by omega))))) rfl rfl ?_
            have hx10 : (m ||| (1 <<< k)) < (enK n (nxQ n ks) m k).length := by omega
            refine Dv rfl rfl rfl (U_indexS (j := (m ||| (1 <<< k))) rfl rfl rfl (by omega)) rfl rfl ?_
            refine Dv rfl rfl rfl (U_load1 rfl rfl (getM0 hx10)) rfl rfl ?_
            refine Dv rfl rfl rfl (U_add rfl rfl (w64e (m := (((enK n (nxQ n ks) m k)[m] + ((enK n (nxQ n ks) m k)[(m ||| (1 <<< k))]) : Nat) : Int)) (by omega) (by omega) (by omega))) rfl rfl ?_
            refine Dv rfl rfl rfl (U_indexS (j := m) rfl rfl rfl (by omega)) rfl rfl ?_
            refine Dn_ rfl rfl rfl (U_store (n := 1) (cs' := ((enK n (nxQ n ks) m k).set m ((enK n (nxQ n ks) m k)[m] + ((enK n (nxQ n ks) m k)[(m ||| (1 <<< k))]))).map n64) rfl rfl rfl rfl rfl (stLt hx9) rfl setM) rfl rfl ?_
            refine Dr.nil rfl ?_
            refine blkQ_n ?_
            refine thenQ_n ?_
            refine W_reg rfl ?_
            refine Rv rfl rfl rfl (U_move rfl) rfl rfl ?_
            refine Rv rfl rfl rfl (U_add rfl rfl (w64e (m := ((k + 1 : Nat) : Int)) (by omega) (by omega) (by omega))) rfl rfl ?_
            refine Rv rfl rfl rfl (U_assign rfl) rfl rfl ?_
            refine Re rfl ?_
            refine thenQ_n ?_
            first | rw [enK_T hne hnx hu hv_] | rw [enK_F hnx]
            exact againTo (T' := [(1, .rop [i64 ((n : Nat) : Int), .ros (ks.flatMap lkN) ks.length c] 0), (4, .ros ((bfL n ks).map n64) n none), (6, .slice 0 0 (1 <<< n) (1 <<< n)), (7, .slice 1 0 (1 <<< n) (1 <<< n)), (10, i64 ((m : Nat) : Int)), (11, i64 (((k + 1) : Nat) : Int))]) (H' := [(0, some (.cells ((upK n (nxQ n ks) (1 <<< n) 0).map n64) 2)), (1, some (.cells ((enK n (nxQ n ks) m (k + 1)).map n64) 2))]) (n := 2) (n - (k + 1)) ⟨k + 1, (by omega), rfl, rfl⟩ (by omega) id ⟨eD rfl rfl, eD rfl rfl, e_ rfl rfl, e_ rfl rfl, eD rfl rfl, eD rfl rfl, trivial⟩ ⟨rD (mapD (fun _ => rfl) _) rfl rfl, rD (mapD (fun _ => rfl) _) rfl rfl, trivial⟩ rfl rfl rfl rfl (fun _ _ => rfl)
          · have hnx : nxQ n ks m k = false := by show nxR (bfN n ks) m k = false; unfold nxR; rw [hbk, decide_eq_true hcg1, decide_eq_false hc5]; rfl
            refine W_skip rfl ?_
            refine blkQ_n ?_
            refine thenQ_n ?_
            refine W_reg rfl ?_
            refine Rv rfl rfl rfl (U_move rfl) rfl rfl ?_
            refine Rv rfl rfl rfl (U_add rfl rfl (w64e (m := ((k + 1 : Nat) : Int)) (by omega) (by omega) (by omega))) rfl rfl ?_
            refine Rv rfl rfl rfl (U_assign rfl) rfl rfl ?_
            refine Re rfl ?_
            refine thenQ_n ?_
            first | rw [enK_T hne hnx hu hv_] | rw [enK_F hnx]
            exact againTo (T' := [(1, .rop [i64 ((n : Nat) : Int), .ros (ks.flatMap lkN) ks.length c] 0), (4, .ros ((bfL n ks).map n64) n none), (6, .slice 0 0 (1 <<< n) (1 <<< n)), (7, .slice 1 0 (1 <<< n) (1 <<< n)), (10, i64 ((m : Nat) : Int)), (11, i64 (((k + 1) : Nat) : Int))]) (H' := [(0, some (.cells ((upK n (nxQ n ks) (1 <<< n) 0).map n64) 2)), (1, some (.cells ((enK n (nxQ n ks) m (k + 1)).map n64) 2))]) (n := 2) (n - (k + 1)) ⟨k + 1, (by omega), rfl, rfl⟩ (by omega) id ⟨eD rfl rfl, eD rfl rfl, e_ rfl rfl, e_ rfl rfl, eD rfl rfl, eD rfl rfl, trivial⟩ ⟨rD (mapD (fun _ => rfl) _) rfl rfl, rD (mapD (fun _ => rfl) _) rfl rfl, trivial⟩ rfl rfl rfl rfl (fun _ _ => rfl)
        · rw [hg7]
          have hg7' : ¬ ((((m >>> k) &&& 1 : Nat) : Int) = 0) := of_decide_eq_false hg7
          have hnx : nxQ n ks m k = false := by show nxR (bfN n ks) m k = false; unfold nxR; rw [decide_eq_false hg7']; rfl
          refine Ds rfl rfl rfl rfl rfl ?_
          refine Ds rfl rfl rfl rfl rfl ?_
          refine Ds rfl rfl rfl rfl rfl ?_
          refine Ds rfl rfl rfl rfl rfl ?_
          refine Ds rfl rfl rfl rfl rfl ?_
          refine Ds rfl rfl rfl rfl rfl ?_
          refine Ds rfl rfl rfl rfl rfl ?_
          refine Ds rfl rfl rfl rfl rfl ?_
          refine Ds rfl rfl rfl rfl rfl ?_
          refine Ds rfl rfl rfl rfl rfl ?_
          refine Ds rfl rfl rfl rfl rfl ?_
          refine Dv rfl rfl rfl (U_pick_f rfl rfl) rfl rfl ?_
          refine Dr.nil rfl ?_
          refine thenQ_n ?_
          refine Wcond rfl rfl (fun h => nomatch h) (fun _ => ?_)
          refine W_skip rfl ?_
          refine blkQ_n ?_
          refine thenQ_n ?_
          refine W_reg rfl ?_
          refine Rv rfl rfl rfl (U_move rfl) rfl rfl ?_
          refine Rv rfl rfl rfl (U_add rfl rfl (w64e (m := ((k + 1 : Nat) : Int)) (by omega) (by omega) (by omega))) rfl rfl ?_
          refine Rv rfl rfl rfl (U_assign rfl) rfl rfl ?_
          refine Re rfl ?_
          refine thenQ_n ?_
          first | rw [enK_T hne hnx hu hv_] | rw [enK_F hnx]
          exact againTo (T' := [(1, .rop [i64 ((n : Nat) : Int), .ros (ks.flatMap lkN) ks.length c] 0), (4, .ros ((bfL n ks).map n64) n none), (6, .slice 0 0 (1 <<< n) (1 <<< n)), (7, .slice 1 0 (1 <<< n) (1 <<< n)), (10, i64 ((m : Nat) : Int)), (11, i64 (((k + 1) : Nat) : Int))]) (H' := [(0, some (.cells ((upK n (nxQ n ks) (1 <<< n) 0).map n64) 2)), (1, some (.cells ((enK n (nxQ n ks) m (k + 1)).map n64) 2))]) (n := 2) (n - (k + 1)) ⟨k + 1, (by omega), rfl, rfl⟩ (by omega) id ⟨eD rfl rfl, eD rfl rfl, e_ rfl rfl, e_ rfl rfl, eD rfl rfl, eD rfl rfl, trivial⟩ ⟨rD (mapD (fun _ => rfl) _) rfl rfl, rD (mapD (fun _ => rfl) _) rfl rfl, trivial⟩ rfl rfl rfl rfl (fun _ _ => rfl)
      · obtain rfl : n = k := by omega
        rw [enK_all hx hm]
        refine W_exit rfl ?_
        refine thenQ_x ?_
        refine thenQ_x ?_
        refine blkQ_x rfl ?_
        refine blkQ_n ?_
        refine thenQ_n ?_
        refine W_reg rfl ?_
        refine Rv rfl rfl rfl (U_move rfl) rfl rfl ?_
        refine Rv rfl rfl rfl (U_sub rfl rfl (w64 (by omega) (by omega))) rfl rfl ?_
        refine Rv rfl rfl rfl (U_assign rfl) rfl rfl ?_
        refine Re rfl ?_
        refine thenQ_n ?_
        exact againTo (T' := [(1, .rop [i64 ((n : Nat) : Int), .ros (ks.flatMap lkN) ks.length c] 0), (4, .ros ((bfL n ks).map n64) n none), (6, .slice 0 0 (1 <<< n) (1 <<< n)), (7, .slice 1 0 (1 <<< n) (1 <<< n)), (10, i64 (((m : Nat) : Int) - 1))]) (H' := [(0, some (.cells ((upK n (nxQ n ks) (1 <<< n) 0).map n64) 2)), (1, some (.cells ((enV n (nxQ n ks) (min m (full n))).map n64) 2))]) (n := 2) (0 + m) ⟨m, (by omega), rfl, rfl⟩ (by omega) id ⟨eD rfl rfl, eD rfl rfl, e_ rfl rfl, e_ rfl rfl, eD rfl rfl, trivial⟩ ⟨rD (mapD (fun _ => rfl) _) rfl rfl, rD (mapD (fun _ => rfl) _) rfl rfl, trivial⟩ rfl rfl rfl rfl (fun _ _ => rfl)
    · obtain rfl : s = 0 := by omega
      rw [Nat.zero_min]
      refine W_exit rfl ?_
      refine thenQ_x ?_
      refine thenQ_x ?_
      refine blkQ_x rfl ?_
      refine thenQ_n ?_
      refine W_seq rfl ?_
      refine W_reg rfl ?_
      refine Rv rfl rfl rfl (U_move rfl) rfl rfl ?_
      refine Rv rfl rfl rfl (U_move rfl) rfl rfl ?_
      refine Rv rfl rfl rfl (U_assign rfl) rfl rfl ?_
      refine Rv rfl rfl rfl (U_assign rfl) rfl rfl ?_
      refine Re rfl ?_
      refine thenQ_n ?_
      refine WfrN 0 rfl (mapD (fun _ => rfl) _) (T' := [(2, .ros ((upK n (nxQ n ks) (1 <<< n) 0).map n64) (1 <<< n) (some (1 <<< n))), (3, .slice 1 0 (1 <<< n) (1 <<< n))]) (H' := [(1, some (.cells ((enV n (nxQ n ks) 0).map n64) 2))]) ⟨⟨_, rfl, fr_sl (Nat.le_refl _)⟩, ⟨_, rfl, rfl⟩, trivial⟩ ⟨⟨rfl, rFD (mapD (fun _ => rfl) _) rfl⟩, trivial⟩ ?_
      refine WfrN 1 rfl (mapD (fun _ => rfl) _) (T' := [(2, .ros ((upK n (nxQ n ks) (1 <<< n) 0).map n64) (1 <<< n) (some (1 <<< n))), (3, .ros ((enV n (nxQ n ks) 0).map n64) (1 <<< n) (some (1 <<< n)))]) (H' := []) ⟨⟨_, rfl, rfl⟩, ⟨_, rfl, fr_sl (Nat.le_refl _)⟩, trivial⟩ trivial ?_
      refine WweakT (j := 2) rfl le_cap ?_
      refine WweakT (j := 3) rfl le_cap ?_
      refine W_ret rfl ?_
      exact retL (rlT rfl (rlT rfl rl0)) rfl rfl
end Go.Proofs.Ythmibifghihdaaa
end

section
namespace Go.Proofs.Ythmibifghihdaaa
set_option maxRecDepth 20000
open Go.AE
theorem countOf_p (n : Nat) (ks : List (Nat × Nat)) (c : Option Nat) (hv : VB n ks) : Pure Try.prog 70 [bknA n ks c] (i64 ((cntQ n ks : Nat) : Int)) := by
  have hv' := hv
  obtain ⟨hn1, hn, hkl, hk⟩ := hv'
  have h1024 := shl_le hn
  have h2n := shl_ge hn1
  refine pure_of_body Try.func70 (c := body Try.f70) rfl (by simp [Try.ntmps70]) fun w0 Φ0 => ?_
  refine W_seq rfl ?_
  refine W_reg rfl ?_
  refine Rv rfl rfl rfl (U_boxF rfl rfl rfl) rfl rfl ?_
  refine Rv rfl rfl rfl (U_assign rfl) rfl rfl ?_
  refine Re rfl ?_
  refine thenQ_n ?_
  refine W_seq rfl ?_
  refine W_reg rfl ?_
  refine Rv rfl rfl rfl (U_load2 rfl rfl rfl rfl) rfl rfl ?_
  refine Rv rfl rfl rfl (U_call rfl rfl (ways_p n ks c hv) rfl) rfl rfl ?_
  refine Rv rfl rfl rfl (U_move rfl) rfl rfl ?_
  refine Rv rfl rfl rfl (U_extract rfl rfl) rfl rfl ?_
  refine Rv rfl rfl rfl (U_extract rfl rfl) rfl rfl ?_
  refine Rv rfl rfl rfl (U_assign rfl) rfl rfl ?_
  refine Rv rfl rfl rfl (U_assign rfl) rfl rfl ?_
  refine Re rfl ?_
  refine thenQ_n ?_
  refine W_seq rfl ?_
  refine W_reg rfl ?_
  refine Rv rfl rfl rfl (U_move rfl) rfl rfl ?_
  refine Rv rfl rfl rfl (U_move rfl) rfl rfl ?_
  refine Rv rfl rfl rfl (U_lenOf rfl len_ros) rfl rfl ?_
  refine Rv rfl rfl rfl (U_sub rfl rfl (w64e (m := ((1 <<< n - 1 : Nat) : Int)) (by omega) (by omega) (by omega))) rfl rfl ?_
  have hul : (upK n (nxQ n ks) (1 <<< n) 0).length = 1 <<< n := upK_len
  have hx1 : (1 <<< n - 1) < (upK n (nxQ n ks) (1 <<< n) 0).length := by omega
  refine Rv rfl rfl rfl (U_indexR (j := (1 <<< n - 1)) rfl rfl rfl (by omega)) rfl rfl ?_
  refine Rv rfl rfl rfl (U_load1 rfl rfl (getM hx1)) rfl rfl ?_
  refine Rv rfl rfl rfl (U_assign rfl) rfl rfl ?_
  refine Re rfl ?_
  refine thenQ_n ?_
  refine W_ret rfl ?_
  exact retL (rlT rfl rl0) (by first | rfl | (simp only [packA]; rw [upK_end (show 1 <<< n - 1 < 2 ^ n by rw [← one_shl (n := n)]; omega), ← cnt_R hv, full_shl]; first | done | rfl)) rfl
end Go.Proofs.Ythmibifghihdaaa
end

section
namespace Go.Proofs.Ythmibifghihdaaa
set_option maxRecDepth 20000
open Go.AE
theorem withR_0 (n : Nat) (c : Option Nat) (a b : Nat) : Pure Try.prog 51 [bknA n [] c, i64 (a : Nat), i64 (b : Nat)] (bknA n [(a, b)] none) := by
  refine pure_of_body Try.func51 (c := body Try.f51) rfl (by simp [Try.ntmps51]) fun w0 Φ0 => ?_
  refine W_seq rfl ?_
  refine W_reg rfl ?_
  refine Rv rfl rfl rfl (U_boxF rfl rfl rfl) rfl rfl ?_
  refine Ra rfl rfl rfl (U_alloc) rfl rfl rfl ?_
  refine Re rfl ?_
  refine thenQ_n ?_
  refine W_seq rfl ?_
  refine WdrawL [8, 11] rfl (by kernel_rfl) (by kernel_rfl) ?_
  refine Dv rfl rfl rfl (U_fieldAddrR rfl) rfl rfl ?_
  refine Dv rfl rfl rfl (U_load1 rfl rfl rfl) rfl rfl ?_
  refine Dv rfl rfl rfl (U_buildSliceF (by rfl) (by decide) rfl rfl rfl) rfl rfl ?_
  refine Dv rfl rfl rfl (U_fieldAddrR rfl) rfl rfl ?_
  refine Dv rfl rfl rfl (U_load1 rfl rfl rfl) rfl rfl ?_
  refine Dv rfl rfl rfl (U_app0G rfl rfl lenk_ros (len0_ros rfl)) rfl rfl ?_
  refine Dv rfl rfl rfl (U_move rfl) rfl rfl ?_
  refine Dv rfl rfl rfl (U_move rfl) rfl rfl ?_
  refine Dv rfl rfl rfl (U_build rfl rfl) rfl rfl ?_
  refine Dv rfl rfl rfl (U_buildSliceF (by rfl) (by decide) rfl rfl rfl) rfl rfl ?_
  refine Da rfl rfl rfl (U_appL (news := [(a, b)].flatMap lkN) (n' := [(a, b)].length) rfl rfl rfl rfl rfl (by simp) (by simp) rfl) rfl rfl rfl rfl ?_
  refine Dv rfl rfl rfl (U_build rfl rfl) rfl rfl ?_
  refine Dn_ rfl rfl rfl (U_storeAll rfl rfl rfl rfl rfl rfl) rfl rfl ?_
  refine Dr.nil rfl ?_
  refine thenQ_n ?_
  refine WfrO 1 ([(a, b)].flatMap lkN) rfl (flatD (fun _ => rfl) _) (T' := [(6, .ptr 0 0)]) (H' := [(0, some (.cells [i64 ((n : Nat) : Int), .ros ([(a, b)].flatMap lkN) ([(a, b)].length) none] 24))]) ⟨fS rfl rfl, trivial⟩ ⟨⟨rfl, .cells (.cons (.same rfl) (.cons .out .nil))⟩, trivial⟩ ?_
  refine W_ret rfl ?_
  exact retL (rlA rfl rfl rfl rl0) rfl rfl
theorem withR_1 (n : Nat) (ks : List (Nat × Nat)) (c : Option Nat) (hl : ks.length ≤ 1000) (hp : 0 < ks.length) (a b : Nat) : Pure Try.prog 51 [bknA n ks c, i64 (a : Nat), i64 (b : Nat)] (bknA n (ks ++ [(a, b)]) none) := by
  refine pure_of_body Try.func51 (c := body Try.f51) rfl (by simp [Try.ntmps51]) fun w0 Φ0 => ?_
  refine W_seq rfl ?_
  refine W_reg rfl ?_
  refine Rv rfl rfl rfl (U_boxF rfl rfl rfl) rfl rfl ?_
  refine Ra rfl rfl rfl (U_alloc) rfl rfl rfl ?_
  refine Re rfl ?_
  refine thenQ_n ?_
  refine W_seq rfl ?_
  refine WdrawL [8, 11] rfl (by kernel_rfl) (by kernel_rfl) ?_
  refine Dv rfl rfl rfl (U_fieldAddrR rfl) rfl rfl ?_
  refine Dv rfl rfl rfl (U_load1 rfl rfl rfl) rfl rfl ?_
  refine Dv rfl rfl rfl (U_buildSliceF (by rfl) (by decide) rfl rfl rfl) rfl rfl ?_
  refine Dv rfl rfl rfl (U_fieldAddrR rfl) rfl rfl ?_
  refine Dv rfl rfl rfl (U_load1 rfl rfl rfl) rfl rfl ?_
  refine Da rfl rfl rfl (U_appL (n' := ks.length) rfl rfl rfl rfl (srcR (flat_len (z := 2) (fun _ => rfl) _)) (by omega) (by omega) rfl) rfl rfl rfl rfl ?_
  refine Dv rfl rfl rfl (U_move rfl) rfl rfl ?_
  refine Dv rfl rfl rfl (U_move rfl) rfl rfl ?_
  refine Dv rfl rfl rfl (U_build rfl rfl) rfl rfl ?_
  refine Dv rfl rfl rfl (U_buildSliceF (by rfl) (by decide) rfl rfl rfl) rfl rfl ?_
  refine Da rfl rfl rfl (U_appO (b := 1) (cs := ks.flatMap lkN) (m := 0) (cs' := (ks ++ [(a, b)]).flatMap lkN) (n' := (ks ++ [(a, b)]).length) rfl rfl (by simp) rfl (flat_len (z := 2) (fun _ => rfl) _) rfl rfl (by omega) (lkApp _ _ _) (len1 _ _)) rfl rfl rfl (upsO rfl hp) ?_
  refine Dv rfl rfl rfl (U_build rfl rfl) rfl rfl ?_
  refine Dn_ rfl rfl rfl (U_storeAll rfl rfl rfl rfl rfl rfl) rfl rfl ?_
  refine Dr.nil rfl ?_
  refine thenQ_n ?_
  refine WfrO 2 ((ks ++ [(a, b)]).flatMap lkN) rfl (flatD (fun _ => rfl) _) (T' := [(6, .ptr 0 0)]) (H' := [(0, some (.cells [i64 ((n : Nat) : Int), .ros ((ks ++ [(a, b)]).flatMap lkN) ((ks ++ [(a, b)]).length) none] 24))]) ⟨fS rfl rfl, trivial⟩ ⟨⟨rfl, .cells (.cons (.same rfl) (.cons .out .nil))⟩, trivial⟩ ?_
  refine W_ret rfl ?_
  exact retL (rlA rfl rfl rfl rl0) rfl rfl
theorem withR_p (n : Nat) (ks : List (Nat × Nat)) (c : Option Nat) (hl : ks.length ≤ 1000) (a b : Nat) : Pure Try.prog 51 [bknA n ks c, i64 (a : Nat), i64 (b : Nat)] (bknA n (ks ++ [(a, b)]) none) := by
  rcases Nat.eq_zero_or_pos ks.length with h | h
  · obtain rfl := List.eq_nil_of_length_eq_zero h
    exact withR_0 n c a b
  · exact withR_1 n ks c hl h a b
end Go.Proofs.Ythmibifghihdaaa
end

section
namespace Go.Proofs.Ythmibifghihdaaa
set_option maxRecDepth 20000
open Go.AE
def grt (b : Bk) : Bool := decide ((50 : Int) < b.ls.length)
theorem great_p (b : Bk) (c : Option Nat) : Pure Try.prog 18 [bookA b c] (.bool (grt b)) := by
  refine pure_of_body Try.func18 (c := body Try.f18) rfl (by simp [Try.ntmps18]) fun w0 Φ0 => ?_
  refine W_seq rfl ?_
  refine W_reg rfl ?_
  refine Rv rfl rfl rfl (U_boxF rfl rfl rfl) rfl rfl ?_
  refine Rv rfl rfl rfl (U_assign rfl) rfl rfl ?_
  refine Re rfl ?_
  refine thenQ_n ?_
  refine W_seq rfl ?_
  refine W_reg rfl ?_
  refine Rv rfl rfl rfl (U_fieldAddrR rfl) rfl rfl ?_
  refine Rv rfl rfl rfl (U_load1 rfl rfl rfl) rfl rfl ?_
  refine Rv rfl rfl rfl (U_lenOf rfl len_ros) rfl rfl ?_
  refine Rv rfl rfl rfl (U_gtr rfl rfl) rfl rfl ?_
  refine Rv rfl rfl rfl (U_assign rfl) rfl rfl ?_
  refine Re rfl ?_
  refine thenQ_n ?_
  refine W_ret rfl ?_
  exact retL (rlT rfl rl0) (by first | rfl | (simp only [packA]; rfl; first | done | rfl)) rfl
end Go.Proofs.Ythmibifghihdaaa
end

section
namespace Go.Proofs.Ythmibifghihdaaa
set_option maxRecDepth 20000
open Go.AE
section
variable {n : Nat} {ks : List (Nat × Nat)}
theorem oll_isP (hv : VB n ks) : ∀ o ∈ oll n ks, IsP n o := fun o ho => by
  have := (oll_mem hv).1 ho; exact ⟨this.1, this.2.1, this.2.2.1⟩
theorem prt_oll (hv : VB n ks) {x y : Nat} (hv2 : VB n (ks ++ [(x, y)])) : (prt (oll n ks) x y).length = cntQ n (ks ++ [(x, y)]) := by
  rw [← oll_len hv2]
  refine (nodup_permL (List.Pairwise.filter _ oll_nodup) oll_nodup fun o => ?_).length_eq
  rw [List.mem_filter, oll_mem hv, oll_mem hv2]
  simp only [prtB, decide_eq_true_eq]
  constructor
  · rintro ⟨⟨h1, h2, h3, h4⟩, h5⟩
    refine ⟨h1, h2, h3, fun p hp => ?_⟩
    rcases List.mem_append.1 hp with h | h
    · exact h4 p h
    · simp at h; subst h; exact h5
  · rintro ⟨h1, h2, h3, h4⟩
    exact ⟨⟨h1, h2, h3, fun p hp => h4 p (List.mem_append_left _ hp)⟩, h4 (x, y) (by simp)⟩
theorem cnt_split (hv : VB n ks) {x y : Nat} (hv1 : VB n (ks ++ [(x, y)])) (hv2 : VB n (ks ++ [(y, x)])) : cntQ n (ks ++ [(x, y)]) + cntQ n (ks ++ [(y, x)]) = cntQ n ks := by
  have h := hv1.2.2.2 (x, y) (by simp)
  rw [← prt_oll hv hv1, ← prt_oll hv hv2, ← oll_len hv]
  exact prt_sum (oll_isP hv) h.1 h.2.2
theorem faQ_bt (hv : VB n ks) {a b : Nat} : bt ((faQ n ks).g a) b = true ↔ Pth ks a b := by rw [bt_eq]; exact faQ_tb hv
end
end Go.Proofs.Ythmibifghihdaaa
end

section
namespace Go.Proofs.Ythmibifghihdaaa
set_option maxRecDepth 20000
open Go.AE
theorem grt_l {b : Bk} (h : grt b = false) : b.ls.length ≤ 1000000 := by simp [grt] at h; omega
end Go.Proofs.Ythmibifghihdaaa
end

section
namespace Go.Proofs.Ythmibifghihdaaa
set_option maxRecDepth 20000
open Go.AE
def fneB (b : Bk) : Bool := !grt b && decide (chkB b = 0)
theorem fine_p (b : Bk) (c : Option Nat) : Pure Try.prog 46 [bookA b c] (.bool (fneB b)) := by
  refine pure_of_body Try.func46 (c := body Try.f46) rfl (by simp [Try.ntmps46]) fun w0 Φ0 => ?_
  refine W_seq rfl ?_
  refine W_reg rfl ?_
  refine Rv rfl rfl rfl (U_boxF rfl rfl rfl) rfl rfl ?_
  refine Rv rfl rfl rfl (U_assign rfl) rfl rfl ?_
  refine Re rfl ?_
  refine thenQ_n ?_
  refine W_seq rfl ?_
  refine Wjoin ⟨[(2, .bool ((!(grt b)) && (decide ((chkB b) = 0))))], [], 0, []⟩ ?_ ?_
  · refine W_reg rfl ?_
    refine Rv rfl rfl rfl (U_load2 rfl rfl rfl rfl) rfl rfl ?_
    refine Rv rfl rfl rfl (U_call rfl rfl (great_p b c) rfl) rfl rfl ?_
    refine Rv rfl rfl rfl (U_not rfl) rfl rfl ?_
    refine Rv rfl rfl rfl (U_move rfl) rfl rfl ?_
    refine Rsplit (t := 6) rfl (fun hg1 => ?_) (fun hg1 => ?_)
    · rw [hg1]
      have hgr : grt b = false := by simpa using hg1
      have hl := grt_l hgr
      refine Rv rfl rfl rfl (U_load2 rfl rfl rfl rfl) rfl rfl ?_
      refine Rv rfl rfl rfl (U_call rfl rfl (chkBR_p b c hl) rfl) rfl rfl ?_
      refine Rv rfl rfl rfl (U_eql rfl rfl) rfl rfl ?_
      refine Rv rfl rfl rfl (U_pick_t rfl rfl) rfl rfl ?_
      refine Rv rfl rfl rfl (U_assign rfl) rfl rfl ?_
      refine Re rfl ?_
      exact joinTo id ⟨eD rfl rfl, trivial⟩ trivial rfl rfl rfl rfl (fun _ _ => rfl)
    · rw [hg1]
      refine Rs rfl rfl rfl rfl rfl ?_
      refine Rs rfl rfl rfl rfl rfl ?_
      refine Rs rfl rfl rfl rfl rfl ?_
      refine Rv rfl rfl rfl (U_pick_f rfl rfl) rfl rfl ?_
      refine Rv rfl rfl rfl (U_assign rfl) rfl rfl ?_
      refine Re rfl ?_
      exact joinTo id ⟨eD rfl rfl, trivial⟩ trivial rfl rfl rfl rfl (fun _ _ => rfl)
  refine thenQ_n ?_
  refine W_ret rfl ?_
  exact retL (rlT rfl rl0) (by first | rfl | (simp only [packA]; rfl; first | done | rfl)) rfl
theorem fine_F (b : Bk) (c : Option Nat) (h : fneB b = false) : Pure Try.prog 46 [bookA b c] (.bool false) := by have := fine_p b c; rwa [h] at this
theorem fine_T (b : Bk) (c : Option Nat) (h : fneB b = true) : Pure Try.prog 46 [bookA b c] (.bool true) := by have := fine_p b c; rwa [h] at this
theorem fne_ok {b : Bk} (h : fneB b = true) : chkB b = 0 := by
  unfold fneB at h
  rw [Bool.and_eq_true, decide_eq_true_eq] at h
  exact h.2
end Go.Proofs.Ythmibifghihdaaa
end

section
namespace Go.Proofs.Ythmibifghihdaaa
set_option maxRecDepth 20000
open Go.AE
section
variable {n : Nat} {ks : List (Nat × Nat)}
theorem plc_get {o : List Nat} (hn : o.Nodup) {i : Nat} (hi : i < o.length) : plc o o[i] = i := idx_at hn hi
end
end Go.Proofs.Ythmibifghihdaaa
end

section
namespace Go.Proofs.Ythmibifghihdaaa
set_option maxRecDepth 20000
open Go.AE
theorem ordered_F (b : Bk) (c : Option Nat) (hf : fneB b = false) : Pure Try.prog 47 [bookA b c] (.bool false) := by
  refine pure_of_body Try.func47 (c := body Try.f47) rfl (by simp [Try.ntmps47]) fun w0 Φ0 => ?_
  refine W_seq rfl ?_
  refine W_reg rfl ?_
  refine Rv rfl rfl rfl (U_boxF rfl rfl rfl) rfl rfl ?_
  refine Rv rfl rfl rfl (U_assign rfl) rfl rfl ?_
  refine Re rfl ?_
  refine thenQ_n ?_
  refine W_seq rfl ?_
  refine W_reg rfl ?_
  refine Rv rfl rfl rfl (U_load2 rfl rfl rfl rfl) rfl rfl ?_
  refine Rv rfl rfl rfl (U_call rfl rfl (fine_F b c hf) rfl) rfl rfl ?_
  refine Rv rfl rfl rfl (U_move rfl) rfl rfl ?_
  refine Rs rfl rfl rfl rfl rfl ?_
  refine Rs rfl rfl rfl rfl rfl ?_
  refine Rs rfl rfl rfl rfl rfl ?_
  refine Rv rfl rfl rfl (U_pick_f rfl rfl) rfl rfl ?_
  refine Rv rfl rfl rfl (U_assign rfl) rfl rfl ?_
  refine Re rfl ?_
  refine thenQ_n ?_
  refine W_ret rfl ?_
  exact retL (rlT rfl rl0) rfl rfl
theorem ordered_Y (n : Nat) (ks : List (Nat × Nat)) (c : Option Nat) (hv : VB n ks) (hf : Pure Try.prog 46 [bknA n ks c] (.bool true)) (g : Nat) (hg : Cyc n ks g) : Pure Try.prog 47 [bknA n ks c] (.bool false) := by
  refine pure_of_body Try.func47 (c := body Try.f47) rfl (by simp [Try.ntmps47]) fun w0 Φ0 => ?_
  refine W_seq rfl ?_
  refine W_reg rfl ?_
  refine Rv rfl rfl rfl (U_boxF rfl rfl rfl) rfl rfl ?_
  refine Rv rfl rfl rfl (U_assign rfl) rfl rfl ?_
  refine Re rfl ?_
  refine thenQ_n ?_
  refine W_seq rfl ?_
  refine W_reg rfl ?_
  refine Rv rfl rfl rfl (U_load2 rfl rfl rfl rfl) rfl rfl ?_
  refine Rv rfl rfl rfl (U_call rfl rfl (hf) rfl) rfl rfl ?_
  refine Rv rfl rfl rfl (U_move rfl) rfl rfl ?_
  refine Rv rfl rfl rfl (U_load2 rfl rfl rfl rfl) rfl rfl ?_
  refine Rv rfl rfl rfl (U_call rfl rfl (countOf_p n ks c hv) rfl) rfl rfl ?_
  refine Rv rfl rfl rfl (OpU.toB (U_gtr rfl rfl) (decide_eq_false (by rw [cnt_cyc hv hg]; simp))) rfl rfl ?_
  refine Rv rfl rfl rfl (U_pick_t rfl rfl) rfl rfl ?_
  refine Rv rfl rfl rfl (U_assign rfl) rfl rfl ?_
  refine Re rfl ?_
  refine thenQ_n ?_
  refine W_ret rfl ?_
  exact retL (rlT rfl rl0) rfl rfl
theorem ordered_A (n : Nat) (ks : List (Nat × Nat)) (c : Option Nat) (hv : VB n ks) (hf : Pure Try.prog 46 [bknA n ks c] (.bool true)) (ha : Acy n ks) : Pure Try.prog 47 [bknA n ks c] (.bool true) := by
  refine pure_of_body Try.func47 (c := body Try.f47) rfl (by simp [Try.ntmps47]) fun w0 Φ0 => ?_
  refine W_seq rfl ?_
  refine W_reg rfl ?_
  refine Rv rfl rfl rfl (U_boxF rfl rfl rfl) rfl rfl ?_
  refine Rv rfl rfl rfl (U_assign rfl) rfl rfl ?_
  refine Re rfl ?_
  refine thenQ_n ?_
  refine W_seq rfl ?_
  refine W_reg rfl ?_
  refine Rv rfl rfl rfl (U_load2 rfl rfl rfl rfl) rfl rfl ?_
  refine Rv rfl rfl rfl (U_call rfl rfl (hf) rfl) rfl rfl ?_
  refine Rv rfl rfl rfl (U_move rfl) rfl rfl ?_
  refine Rv rfl rfl rfl (U_load2 rfl rfl rfl rfl) rfl rfl ?_
  refine Rv rfl rfl rfl (U_call rfl rfl (countOf_p n ks c hv) rfl) rfl rfl ?_
  refine Rv rfl rfl rfl (OpU.toB (U_gtr rfl rfl) (decide_eq_true (by have := cnt_acy hv ha; omega))) rfl rfl ?_
  refine Rv rfl rfl rfl (U_pick_t rfl rfl) rfl rfl ?_
  refine Rv rfl rfl rfl (U_assign rfl) rfl rfl ?_
  refine Re rfl ?_
  refine thenQ_n ?_
  refine W_ret rfl ?_
  exact retL (rlT rfl rl0) rfl rfl
theorem cntA_p (n : Nat) (ks : List (Nat × Nat)) (c : Option Nat) (hv : VB n ks) (h40 : ks.length ≤ 40) (ha : Acy n ks) : Pure Try.prog 28 [bknA n ks c] (.tup [i64 ((cntQ n ks : Nat) : Int), i64 0]) := countP_a n ks c hv h40 ha
end Go.Proofs.Ythmibifghihdaaa
end

section
namespace Go.Proofs.Ythmibifghihdaaa
set_option maxRecDepth 20000
open Go.AE
theorem gcd_both {a b c : Nat} (h : a + b = c) : Nat.gcd b c = Nat.gcd a c := by
  subst h
  apply Nat.dvd_antisymm
  · refine Nat.dvd_gcd ?_ (Nat.gcd_dvd_right _ _)
    exact (Nat.dvd_add_left (Nat.gcd_dvd_left b (a + b))).1 (Nat.gcd_dvd_right b (a + b))
  · refine Nat.dvd_gcd ?_ (Nat.gcd_dvd_right _ _)
    exact (Nat.dvd_add_right (Nat.gcd_dvd_left a (a + b))).1 (Nat.gcd_dvd_right a (a + b))
theorem fr_facts {a b c : Nat} (h : a + b = c) (hc : 0 < c) : frD b c = frD a c ∧ frN a c + frN b c = frD a c ∧ 1 ≤ frD a c ∧ frD a c ≤ c ∧ c % frD a c = 0 ∧ ((frN a c = 1 ∧ frD a c = 1) ↔ a = c) ∧ ((frN a c = 0 ∧ frD a c = 1) ↔ a = 0) := by
  have hg := gcd_both h
  have hgp : 0 < Nat.gcd a c := Nat.gcd_pos_of_pos_right a hc
  obtain ⟨a', ha⟩ := Nat.gcd_dvd_left a c
  obtain ⟨c', hc'⟩ := Nat.gcd_dvd_right a c
  have e1 : frN a c = a' := Nat.div_eq_of_eq_mul_right hgp ha
  have e2 : frD a c = c' := Nat.div_eq_of_eq_mul_right hgp hc'
  have hle : a' ≤ c' := by
    refine Nat.le_of_mul_le_mul_left (?_ : Nat.gcd a c * a' ≤ Nat.gcd a c * c') hgp
    rw [← ha, ← hc']; omega
  have hb : b = Nat.gcd a c * (c' - a') := by rw [Nat.mul_sub, ← ha, ← hc']; omega
  have e3 : frN b c = c' - a' := by unfold frN; rw [hg]; exact Nat.div_eq_of_eq_mul_right hgp hb
  have e4 : frD b c = c' := by unfold frD; rw [hg]; exact Nat.div_eq_of_eq_mul_right hgp hc'
  have hc1 : 1 ≤ c' := by
    rcases Nat.eq_zero_or_pos c' with h0 | h0
    · rw [h0] at hc'; simp at hc'; omega
    · exact h0
  have hcc : c' ≤ c := by
    calc c' ≤ Nat.gcd a c * c' := Nat.le_mul_of_pos_left _ hgp
      _ = c := hc'.symm
  rw [e1, e2, e3, e4]
  refine ⟨rfl, by omega, hc1, hcc, ?_, ?_, ?_⟩
  · have : (Nat.gcd a c * c') % c' = 0 := Nat.mul_mod_left _ _
    rwa [← hc'] at this
  · constructor
    · rintro ⟨h1, h2⟩; rw [ha, h1]; conv => rhs; rw [hc', h2]
    · intro h1
      have h2 : Nat.gcd a c = c := by rw [h1, Nat.gcd_self]
      rw [h2] at ha hc'
      have h3 : c' = 1 := Nat.eq_of_mul_eq_mul_left hc (by rw [Nat.mul_one]; exact hc'.symm)
      have h4 : a' = 1 := Nat.eq_of_mul_eq_mul_left hc (by rw [Nat.mul_one, ← ha]; exact h1)
      exact ⟨h4, h3⟩
  · constructor
    · rintro ⟨h1, _⟩; rw [ha, h1, Nat.mul_zero]
    · intro h1
      have h2 : Nat.gcd a c = c := by rw [h1, Nat.gcd_zero_left]
      rw [h2] at ha hc'
      have h3 : c' = 1 := Nat.eq_of_mul_eq_mul_left hc (by rw [Nat.mul_one]; exact hc'.symm)
      have h4 : a' = 0 := Nat.eq_of_mul_eq_mul_left hc (by rw [Nat.mul_zero, ← ha]; exact h1)
      exact ⟨h4, h3⟩
end Go.Proofs.Ythmibifghihdaaa
end

section
namespace Go.Proofs.Ythmibifghihdaaa
set_option maxRecDepth 20000
open Go.AE
theorem chanceQ_p (n : Nat) (ks : List (Nat × Nat)) (c : Option Nat) (hv : VB n ks) (h40 : ks.length ≤ 40) (ha : Acy n ks) (a d : Nat) (ha2 : a < n) (hd2 : d < n) (had : a ≠ d) : Pure Try.prog 35 [bknA n ks c, i64 (a : Nat), i64 (d : Nat)] (.tup [.agg [i64 ((frN (cntQ n (ks ++ [(a, d)])) (cntQ n ks) : Nat) : Int), i64 ((frD (cntQ n (ks ++ [(a, d)])) (cntQ n ks) : Nat) : Int)], i64 0]) := by
  have hv1 := vb_snoc hv (by omega) ha2 hd2 had
  rcases acy_or n (ks ++ [(a, d)]) with h | ⟨g, hg⟩
  · exact chance_gA n ks c hv h40 ha a d ha2 hd2 had (cnt_acy hv ha) h
  · rw [cnt_cyc hv1 hg]; exact chance_gY n ks c hv h40 ha a d ha2 hd2 had (cnt_acy hv ha) g hg
theorem xy_ne {n x t : Nat} (hx : x < n) (ht : t < n - 1) : x ≠ (x + 1 + t) % n := by
  rcases Nat.lt_or_ge (x + 1 + t) n with h | h
  · rw [Nat.mod_eq_of_lt h]; omega
  · rw [Nat.mod_eq_sub_mod h, Nat.mod_eq_of_lt (by omega)]; omega
end Go.Proofs.Ythmibifghihdaaa
end

section
namespace Go.Proofs.Ythmibifghihdaaa
set_option maxRecDepth 20000
open Go.AE
theorem isO_mem {n : Nat} {ks : List (Nat × Nat)} {q : List Nat} (h : IsO n ks q) {s : Nat} (hs : s < n) : s ∈ q := by
  refine Classical.byContradiction fun hc => ?_
  have := nodup_len (l := s :: q) (m := List.range n) (List.nodup_cons.2 ⟨hc, h.2.1⟩) (fun x hx => by rcases List.mem_cons.1 hx with rfl | hx; exact List.mem_range.2 hs; exact List.mem_range.2 (h.2.2.1 x hx))
  simp [h.1] at this; omega
end Go.Proofs.Ythmibifghihdaaa
end

section
namespace Go.Proofs.Ythmibifghihdaaa
set_option maxRecDepth 20000
open Go.AE
section
variable {n : Nat} {ks : List (Nat × Nat)}
theorem plc_some {o : List Nat} {x : Nat} (hx : x ∈ o) : ∃ k, ∃ h : k < o.length, o[k] = x ∧ ∀ (hn : o.Nodup), plc o x = k := by
  obtain ⟨k, hk, e⟩ := List.getElem_of_mem hx
  exact ⟨k, hk, e, fun hn => by rw [← e]; exact plc_get hn hk⟩
theorem isP_mem {o : List Nat} (h : IsP n o) {s : Nat} (hs : s < n) : s ∈ o :=
  isO_mem (ks := []) ⟨h.1, h.2.1, h.2.2, fun p hp => absurd hp (by simp)⟩ hs
theorem isO_P {o : List Nat} (h : IsO n ks o) : IsP n o := ⟨h.1, h.2.1, h.2.2.1⟩
end
end Go.Proofs.Ythmibifghihdaaa
end

section
namespace Go.Proofs.Ythmibifghihdaaa
set_option maxRecDepth 20000
open Go.AE
section
variable {n : Nat} {ks : List (Nat × Nat)}
theorem prQ_have {a b : Nat} (h1 : a < b) (h2 : b < n) : (a, b) ∈ prQ n := by
  unfold prQ prK
  exact List.mem_flatMap.2 ⟨a, List.mem_range.2 (by omega), by unfold prR; exact List.mem_map.2 ⟨b, List.mem_range'_1.2 (by omega), rfl⟩⟩
end
end Go.Proofs.Ythmibifghihdaaa
end

section
namespace Go.Proofs.Ythmibifghihdaaa
set_option maxRecDepth 20000
def sm (N : Nat) (f : Nat → Nat) : Nat := ((List.range N).map f).sum
theorem sm_0 {f : Nat → Nat} : sm 0 f = 0 := rfl
theorem sm_S {N : Nat} {f : Nat → Nat} : sm (N + 1) f = sm N f + f N := by simp [sm, List.range_succ]
theorem sm_congr {N : Nat} {f g : Nat → Nat} (h : ∀ a, a < N → f a = g a) : sm N f = sm N g := by
  unfold sm; rw [List.map_congr_left fun a ha => h a (List.mem_range.1 ha)]
theorem sm_mono {N : Nat} {f g : Nat → Nat} (h : ∀ a, a < N → f a ≤ g a) : sm N f ≤ sm N g :=
  sum_mono _ fun a ha => h a (List.mem_range.1 ha)
theorem sm_add {N : Nat} {f g : Nat → Nat} : sm N (fun a => f a + g a) = sm N f + sm N g := sum_add _
theorem sm_mulL {N c : Nat} {f : Nat → Nat} : sm N (fun a => c * f a) = c * sm N f := by
  induction N with
  | zero => rfl
  | succ N ih => rw [sm_S, sm_S, ih, Nat.mul_add]
theorem sm_mulR {N c : Nat} {f : Nat → Nat} : sm N (fun a => f a * c) = sm N f * c := by
  rw [Nat.mul_comm, ← sm_mulL]; exact sm_congr fun a _ => Nat.mul_comm _ _
theorem sm_const {N c : Nat} : sm N (fun _ => c) = N * c := by
  induction N with
  | zero => simp [sm]
  | succ N ih => rw [sm_S, ih, Nat.succ_mul]
theorem sm_zero {N : Nat} {f : Nat → Nat} (h : ∀ a, a < N → f a = 0) : sm N f = 0 := by
  rw [sm_congr h, sm_const, Nat.mul_zero]
theorem sm_swap {N M : Nat} {f : Nat → Nat → Nat} : sm N (fun a => sm M (f a)) = sm M (fun b => sm N fun a => f a b) := by
  induction N with
  | zero => rw [sm_0]; exact (sm_zero fun _ _ => sm_0).symm
  | succ N ih => rw [sm_S, ih, ← sm_add]; exact sm_congr fun b _ => sm_S.symm
theorem sm_shift {N M s : Nat} {f : Nat → Nat} (hs : s + N ≤ M) (h : ∀ a, a < M → (a < s ∨ s + N ≤ a) → f a = 0) : sm M f = sm N (fun a => f (a + s)) := by
  obtain ⟨d, rfl⟩ : ∃ d, M = s + N + d := ⟨M - (s + N), by omega⟩
  have h1 : ∀ e, e ≤ d → sm (s + N + e) f = sm (s + N) f := by
    intro e
    induction e with
    | zero => intro _; rfl
    | succ e ih => intro he; rw [← Nat.add_assoc, sm_S, ih (by omega), h _ (by omega) (.inr (by omega))]; rfl
  rw [h1 d (Nat.le_refl _)]
  have h2 : ∀ e, e ≤ N → sm (s + e) f = sm e (fun a => f (a + s)) := by
    intro e
    induction e with
    | zero => intro _; exact sm_zero fun a ha => h a (by omega) (.inl (by omega))
    | succ e ih => intro he; rw [← Nat.add_assoc, sm_S, ih (by omega), sm_S, Nat.add_comm s e]
  exact h2 N (Nat.le_refl _)
theorem sm_rev {N : Nat} {f : Nat → Nat} : sm N (fun a => f (N - 1 - a)) = sm N f := by
  induction N with
  | zero => rfl
  | succ N ih =>
    have h1 : sm (N + 1) (fun a => f (N + 1 - 1 - a)) = f N + sm N (fun a => f (N - 1 - a)) := by
      have h2 : ∀ k, sm (k + 1) (fun a => f (N - a)) = f N + sm k (fun a => f (N - 1 - a)) := by
        intro k
        induction k with
        | zero => rw [sm_S, sm_0, sm_0]; simp
        | succ k ih => rw [sm_S, ih, sm_S, Nat.add_assoc]; congr 3; omega
      exact h2 N
    rw [h1, ih, sm_S, Nat.add_comm]
theorem two_num {x y X Y : Nat} (h1 : x ≤ X) (h2 : y ≤ X) (h3 : x * y ≤ X * Y) : x + y ≤ X + Y := by
  rcases Nat.eq_zero_or_pos X with rfl | hp
  · omega
  obtain ⟨s, rfl⟩ : ∃ s, X = x + s := ⟨X - x, by omega⟩
  refine Nat.le_of_mul_le_mul_left (c := x + s) ?_ hp
  obtain ⟨t, ht⟩ : ∃ t, x + s = y + t := ⟨x + s - y, by omega⟩
  have e : (x + s) * (x + y) + s * t = (x + s) * (x + s) + x * y := by
    have e1 : (x + s) * (x + y) = (x + s) * x + (x + s) * y := Nat.mul_add _ _ _
    have e2 : (x + s) * (x + s) = (x + s) * x + (x + s) * s := Nat.mul_add _ _ _
    have e3 : (x + s) * s = y * s + t * s := by rw [ht, Nat.add_mul]
    have e4 : (x + s) * y = x * y + s * y := Nat.add_mul _ _ _
    have e5 : y * s = s * y := Nat.mul_comm _ _
    have e6 : t * s = s * t := Nat.mul_comm _ _
    omega
  rw [Nat.mul_add (x + s) (x + s) Y]
  omega
theorem chain4 {f g h k : Nat → Nat} : ∀ (N : Nat), (∀ a b, a < N → b < N → f a * g b ≤ h (max a b) * k (min a b)) → sm N f * sm N g ≤ sm N h * sm N k
  | 0, _ => by simp [sm_0]
  | N + 1, H => by
    have ih := chain4 N fun a b ha hb => H a b (by omega) (by omega)
    have hN : f N * g N ≤ h N * k N := by have := H N N (by omega) (by omega); simpa using this
    have hp : sm N (fun a => f N * g a + f a * g N) ≤ sm N (fun a => h N * k a + h a * k N) := by
      refine sm_mono fun a ha => ?_
      have h1 := H N a (by omega) (by omega)
      have h2 := H a N (by omega) (by omega)
      have h3 := H a a (by omega) (by omega)
      rw [Nat.max_eq_left (by omega), Nat.min_eq_right (by omega)] at h1
      rw [Nat.max_eq_right (by omega), Nat.min_eq_left (by omega)] at h2
      rw [Nat.max_self, Nat.min_self] at h3
      refine two_num h1 h2 ?_
      calc f N * g a * (f a * g N) = (f N * g N) * (f a * g a) := by simp only [Nat.mul_assoc, Nat.mul_comm, Nat.mul_left_comm]
        _ ≤ (h N * k N) * (h a * k a) := Nat.mul_le_mul hN h3
        _ = h N * k a * (h a * k N) := by simp only [Nat.mul_assoc, Nat.mul_comm, Nat.mul_left_comm]
    rw [sm_add, sm_add, sm_mulL, sm_mulL, sm_mulR, sm_mulR] at hp
    rw [sm_S, sm_S, sm_S, sm_S, Nat.add_mul, Nat.add_mul, Nat.mul_add, Nat.mul_add, Nat.mul_add, Nat.mul_add]
    omega
def upd (g : Nat → Nat) (i a : Nat) : Nat → Nat := fun j => if j = i then a else g j
theorem upd_self {g : Nat → Nat} {i a : Nat} : upd g i a i = a := if_pos rfl
theorem upd_ne {g : Nat → Nat} {i j a : Nat} (h : j ≠ i) : upd g i a j = g j := if_neg h
theorem upd_comm {g : Nat → Nat} {i j a b : Nat} (h : i ≠ j) : upd (upd g i a) j b = upd (upd g j b) i a := by
  funext t; unfold upd
  by_cases h1 : t = j
  · by_cases h2 : t = i
    · exact absurd (h2.symm.trans h1) h
    · rw [if_pos h1, if_neg h2, if_pos h1]
  · rw [if_neg h1, if_neg h1]
def sumC (N : Nat) : List Nat → ((Nat → Nat) → Nat) → (Nat → Nat) → Nat
  | [], F, g => F g
  | i :: l, F, g => sm N fun a => sumC N l F (upd g i a)
def mxF (u v : Nat → Nat) : Nat → Nat := fun i => max (u i) (v i)
def mnG (u v : Nat → Nat) : Nat → Nat := fun i => min (u i) (v i)
theorem four_fun {N : Nat} {α β γ δ : (Nat → Nat) → Nat} (H : ∀ u v, α u * β v ≤ γ (mxF u v) * δ (mnG u v)) : ∀ (l : List Nat) (g h : Nat → Nat), sumC N l α g * sumC N l β h ≤ sumC N l γ (mxF g h) * sumC N l δ (mnG g h)
  | [], g, h => H g h
  | i :: l, g, h => by
    refine chain4 N fun a b _ _ => ?_
    have := four_fun (N := N) H l (upd g i a) (upd h i b)
    have e1 : mxF (upd g i a) (upd h i b) = upd (mxF g h) i (max a b) := by
      funext t; unfold mxF upd; split <;> rfl
    have e2 : mnG (upd g i a) (upd h i b) = upd (mnG g h) i (min a b) := by
      funext t; unfold mnG upd; split <;> rfl
    rwa [e1, e2] at this
theorem sumC_congr {N : Nat} {F G : (Nat → Nat) → Nat} : ∀ (l : List Nat) (g : Nat → Nat), (∀ f, (∀ i ∈ l, f i < N) → (∀ i, i ∉ l → f i = g i) → F f = G f) → sumC N l F g = sumC N l G g
  | [], g, h => h g (fun _ h => absurd h (by simp)) fun _ _ => rfl
  | i :: l, g, h => sm_congr fun a ha => sumC_congr l _ fun f h1 h2 => h f
      (fun j hj => by
        by_cases hjl : j ∈ l
        · exact h1 j hjl
        · rcases List.mem_cons.1 hj with rfl | hj
          · rw [h2 _ hjl, upd_self]; exact ha
          · exact absurd hj hjl)
      (fun j hj => by
        rw [h2 j fun hc => hj (List.mem_cons_of_mem _ hc), upd_ne fun e => hj (by rw [e]; exact List.mem_cons_self)])
theorem sumC_mono {N : Nat} {F G : (Nat → Nat) → Nat} : ∀ (l : List Nat) (g : Nat → Nat), (∀ f, (∀ i ∈ l, f i < N) → (∀ i, i ∉ l → f i = g i) → F f ≤ G f) → sumC N l F g ≤ sumC N l G g
  | [], g, h => h g (fun _ h => absurd h (by simp)) fun _ _ => rfl
  | i :: l, g, h => sm_mono fun a ha => sumC_mono l _ fun f h1 h2 => h f
      (fun j hj => by
        by_cases hjl : j ∈ l
        · exact h1 j hjl
        · rcases List.mem_cons.1 hj with rfl | hj
          · rw [h2 _ hjl, upd_self]; exact ha
          · exact absurd hj hjl)
      (fun j hj => by
        rw [h2 j fun hc => hj (List.mem_cons_of_mem _ hc), upd_ne fun e => hj (by rw [e]; exact List.mem_cons_self)])
theorem sumC_add {N : Nat} {F G : (Nat → Nat) → Nat} : ∀ (l : List Nat) (g : Nat → Nat), sumC N l (fun f => F f + G f) g = sumC N l F g + sumC N l G g
  | [], g => rfl
  | i :: l, g => by
    show sm N (fun a => sumC N l (fun f => F f + G f) (upd g i a)) = _
    rw [sm_congr fun a _ => sumC_add l (upd g i a), sm_add]; rfl
theorem sumC_const {N c : Nat} : ∀ (l : List Nat) (g : Nat → Nat), sumC N l (fun _ => c) g = N ^ l.length * c
  | [], g => by simp [sumC]
  | i :: l, g => by
    show sm N (fun a => sumC N l (fun _ => c) (upd g i a)) = _
    rw [sm_congr fun a _ => sumC_const l (upd g i a), sm_const, List.length_cons, Nat.pow_succ, Nat.mul_comm (N ^ l.length) N, Nat.mul_assoc]
theorem sumC_zero {N : Nat} {F : (Nat → Nat) → Nat} (l : List Nat) (g : Nat → Nat) (h : ∀ f, (∀ i ∈ l, f i < N) → (∀ i, i ∉ l → f i = g i) → F f = 0) : sumC N l F g = 0 := by
  rw [sumC_congr l g h, sumC_const, Nat.mul_zero]
theorem sumC_list {N : Nat} {α : Type} {F : α → (Nat → Nat) → Nat} (l : List Nat) (g : Nat → Nat) : ∀ (L : List α), sumC N l (fun f => (L.map fun o => F o f).sum) g = (L.map fun o => sumC N l (F o) g).sum
  | [] => by simp only [List.map_nil, List.sum_nil]; rw [sumC_const, Nat.mul_zero]
  | o :: L => by
    simp only [List.map_cons, List.sum_cons]
    rw [sumC_add, sumC_list l g L]
theorem sumC_perm {N : Nat} {F : (Nat → Nat) → Nat} {l m : List Nat} (h : l.Perm m) : l.Nodup → ∀ g, sumC N l F g = sumC N m F g := by
  induction h with
  | nil => intro _ g; rfl
  | cons x h ih => intro hn g; exact sm_congr fun a _ => ih (List.nodup_cons.1 hn).2 _
  | swap x y l =>
    intro hn g
    show sm N (fun a => sm N fun b => sumC N l F (upd (upd g y a) x b)) = sm N (fun a => sm N fun b => sumC N l F (upd (upd g x a) y b))
    rw [sm_swap]
    have hne : y ≠ x := fun e => (List.nodup_cons.1 hn).1 (by rw [e]; exact List.mem_cons_self)
    exact sm_congr fun a _ => sm_congr fun b _ => by rw [upd_comm hne]
  | trans h1 h2 ih1 ih2 => intro hn g; rw [ih1 hn, ih2 (h1.nodup_iff.1 hn)]
end Go.Proofs.Ythmibifghihdaaa
end

section
namespace Go.Proofs.Ythmibifghihdaaa
set_option maxRecDepth 20000
open Go.AE
def inc (b : Nat) (f : Nat → Nat) : List Nat → Bool
  | [] => true
  | i :: l => decide (b ≤ f i) && inc (f i + 1) f l
def Wn (N : Nat) : Nat → Nat → Nat
  | 0, _ => 1
  | k + 1, b => sm N fun a => if b ≤ a then Wn N k (a + 1) else 0
def one (b : Bool) : Nat := if b = true then 1 else 0
theorem sumC_inc {N : Nat} : ∀ (l : List Nat) (b : Nat) (g : Nat → Nat), l.Nodup → sumC N l (fun f => one (inc b f l)) g = Wn N l.length b
  | [], b, g, _ => rfl
  | i :: l, b, g, hn => by
    show sm N (fun a => sumC N l (fun f => one (inc b f (i :: l))) (upd g i a)) = sm N fun a => if b ≤ a then Wn N l.length (a + 1) else 0
    refine sm_congr fun a _ => ?_
    have hi := (List.nodup_cons.1 hn).1
    by_cases h : b ≤ a
    · rw [if_pos h, ← sumC_inc l (a + 1) (upd g i a) (List.nodup_cons.1 hn).2]
      refine sumC_congr l _ fun f _ h2 => ?_
      have : f i = a := by rw [h2 i hi, upd_self]
      simp only [inc, this, decide_eq_true h, Bool.true_and]
    · rw [if_neg h]
      refine sumC_zero l _ fun f _ h2 => ?_
      have : f i = a := by rw [h2 i hi, upd_self]
      simp only [inc, this, decide_eq_false h, Bool.false_and]; rfl
theorem Wn_lb {N m : Nat} : ∀ (k b : Nat), b + k * m ≤ N → m ^ k ≤ Wn N k b
  | 0, b, _ => Nat.le_refl _
  | k + 1, b, h => by
    rw [Nat.add_mul, Nat.one_mul] at h
    have h1 : sm N (fun a => if b ≤ a ∧ a < b + m then m ^ k else 0) ≤ Wn N (k + 1) b := by
      refine sm_mono fun a _ => ?_
      by_cases h2 : b ≤ a ∧ a < b + m
      · rw [if_pos h2, if_pos h2.1]; exact Wn_lb k (a + 1) (by omega)
      · rw [if_neg h2]; exact Nat.zero_le _
    rw [sm_shift (s := b) (N := m) (by omega) fun a _ h2 => if_neg (by omega), sm_congr (g := fun _ => m ^ k) fun a ha => if_pos (by omega), sm_const] at h1
    rw [Nat.pow_succ, Nat.mul_comm]; exact h1
theorem inc_iff {f : Nat → Nat} : ∀ {l : List Nat} {b : Nat}, inc b f l = true ↔ (∀ i ∈ l, b ≤ f i) ∧ l.Pairwise fun i j => f i < f j
  | [], b => by simp [inc]
  | i :: l, b => by
    rw [inc, Bool.and_eq_true, decide_eq_true_eq, inc_iff, List.pairwise_cons]
    constructor
    · rintro ⟨h1, h2, h3⟩
      refine ⟨fun j hj => ?_, fun j hj => h2 j hj, h3⟩
      rcases List.mem_cons.1 hj with rfl | hj
      · exact h1
      · have := h2 j hj; omega
    · rintro ⟨h1, h2, h3⟩
      exact ⟨h1 i List.mem_cons_self, fun j hj => h2 j hj, h3⟩
section
variable {n : Nat} {ks : List (Nat × Nat)}
theorem isP_perm {o : List Nat} (h : IsP n o) : o.Perm (List.range n) := nodup_perm h.2.1 List.nodup_range fun x => ⟨fun hx => List.mem_range.2 (h.2.2 x hx), fun hx => isP_mem h (List.mem_range.1 hx)⟩
theorem perm_isP {o : List Nat} (h : o.Perm (List.range n)) : IsP n o := ⟨by rw [h.length_eq, List.length_range], h.nodup_iff.2 List.nodup_range, fun x hx => List.mem_range.1 (h.mem_iff.1 hx)⟩
theorem inc_one {f : Nat → Nat} {o p : List Nat} (ho : IsP n o) (hp : IsP n p) (h1 : inc 0 f o = true) (h2 : inc 0 f p = true) : o = p :=
  List.Perm.eq_of_pairwise (le := fun i j => f i < f j) (fun a b _ _ h h' => by omega) (inc_iff.1 h1).2 (inc_iff.1 h2).2 ((isP_perm ho).trans (isP_perm hp).symm)
theorem inc_plc {f : Nat → Nat} {o : List Nat} (ho : IsP n o) (h : inc 0 f o = true) {a b : Nat} (ha : a < n) (hb : b < n) (hab : plc o a < plc o b) : f a < f b := by
  obtain ⟨i, hi, ei, pi⟩ := plc_some (isP_mem ho ha)
  obtain ⟨j, hj, ej, pj⟩ := plc_some (isP_mem ho hb)
  rw [pi ho.2.1, pj ho.2.1] at hab
  have := List.pairwise_iff_getElem.1 (inc_iff.1 h).2 i j hi hj (by omega)
  rwa [ei, ej] at this
def JQ (ks : List (Nat × Nat)) (f : Nat → Nat) : Nat := if ∀ p ∈ ks, f p.1 < f p.2 then 1 else 0
def incS (n : Nat) (ks : List (Nat × Nat)) (f : Nat → Nat) : Nat := ((oll n ks).map fun o => one (inc 0 f o)).sum
theorem sum_one1 {f : Nat → Nat} : ∀ {L : List (List Nat)}, L.Nodup → (∀ o ∈ L, IsP n o) → (L.map fun o => one (inc 0 f o)).sum ≤ 1
  | [], _, _ => by simp
  | o :: L, hn, hP => by
    rw [List.map_cons, List.sum_cons]
    have hn' := List.nodup_cons.1 hn
    cases e : inc 0 f o with
    | false =>
      have := sum_one1 (f := f) hn'.2 fun p hp => hP p (List.mem_cons_of_mem _ hp)
      have h0 : one false = 0 := rfl
      omega
    | true =>
      have : (L.map fun p => one (inc 0 f p)) = L.map fun _ => 0 := List.map_congr_left fun p hp => by
        cases e2 : inc 0 f p with
        | false => rfl
        | true => exact absurd (inc_one (hP o List.mem_cons_self) (hP p (List.mem_cons_of_mem _ hp)) e e2 ▸ hp) hn'.1
      rw [this]
      have h0 : ∀ M : List (List Nat), (M.map fun _ => 0).sum = 0 := fun M => by induction M with
        | nil => rfl
        | cons _ _ ih => rw [List.map_cons, List.sum_cons, ih]
      rw [h0]; exact Nat.le_refl _
theorem sum_0 {f : Nat → Nat} : ∀ {L : List (List Nat)}, (∀ o ∈ L, inc 0 f o = false) → (L.map fun o => one (inc 0 f o)).sum = 0
  | [], _ => rfl
  | o :: L, h => by rw [List.map_cons, List.sum_cons, h o List.mem_cons_self, sum_0 fun p hp => h p (List.mem_cons_of_mem _ hp)]; rfl
theorem sum_1 {f : Nat → Nat} : ∀ {L : List (List Nat)} {o : List Nat}, o ∈ L → inc 0 f o = true → 1 ≤ (L.map fun o => one (inc 0 f o)).sum
  | p :: L, o, ho, h => by
    rw [List.map_cons, List.sum_cons]
    rcases List.mem_cons.1 ho with rfl | ho
    · rw [h]; simp only [one, if_true]; omega
    · have := sum_1 ho h; omega
theorem incS_le (hv : VB n ks) {f : Nat → Nat} : incS n ks f ≤ JQ ks f := by
  by_cases h : ∃ o ∈ oll n ks, inc 0 f o = true
  · obtain ⟨o, ho, hi⟩ := h
    have hO := (oll_mem hv).1 ho
    have : JQ ks f = 1 := if_pos fun p hp => inc_plc (isO_P hO) hi (hv.2.2.2 p hp).1 (hv.2.2.2 p hp).2.1 (hO.2.2.2 p hp)
    rw [this]
    exact sum_one1 oll_nodup (oll_isP hv)
  · have : incS n ks f = 0 := sum_0 fun o ho => by
      cases e : inc 0 f o with
      | false => rfl
      | true => exact absurd ⟨o, ho, e⟩ h
    omega
def colS (n : Nat) (f : Nat → Nat) : Nat := ((prQ n).map fun p => if f p.1 = f p.2 then 1 else 0).sum
theorem sum_pick {α : Type} {g : α → Nat} : ∀ {L : List α} {a : α}, a ∈ L → g a ≤ (L.map g).sum
  | b :: L, a, h => by
    rw [List.map_cons, List.sum_cons]
    rcases List.mem_cons.1 h with rfl | h
    · omega
    · have := sum_pick (g := g) h; omega
theorem JQ_le (hv : VB n ks) {f : Nat → Nat} : JQ ks f ≤ incS n ks f + colS n f := by
  unfold JQ
  split
  · rename_i hj
    by_cases hc : ∃ p ∈ prQ n, f p.1 = f p.2
    · obtain ⟨p, hp, e⟩ := hc
      have := sum_pick (g := fun p : Nat × Nat => if f p.1 = f p.2 then 1 else 0) hp
      simp only [e, if_true] at this
      unfold colS; omega
    · have hinj : ∀ a b, a < n → b < n → f a = f b → a = b := fun a b ha hb e => by
        rcases Nat.lt_trichotomy a b with h | h | h
        · exact absurd ⟨(a, b), prQ_have h hb, e⟩ hc
        · exact h
        · exact absurd ⟨(b, a), prQ_have h ha, e.symm⟩ hc
      let le : Nat → Nat → Bool := fun a b => decide (f a ≤ f b)
      have hperm : ((List.range n).mergeSort le).Perm (List.range n) := List.mergeSort_perm _ _
      have hP := perm_isP hperm
      have hs := List.pairwise_mergeSort (le := le) (fun a b c h1 h2 => by simp only [le, decide_eq_true_eq] at *; omega) (fun a b => by simp only [le, Bool.or_eq_true, decide_eq_true_eq]; omega) (List.range n)
      have hinc : inc 0 f ((List.range n).mergeSort le) = true := by
        refine inc_iff.2 ⟨fun _ _ => Nat.zero_le _, ?_⟩
        refine List.Pairwise.imp_of_mem (fun {a b} ha hb h => ?_) (hs.and hP.2.1)
        have h1 : f a ≤ f b := by have := h.1; simpa only [le, decide_eq_true_eq] using this
        have h2 : f a ≠ f b := fun e => h.2 (hinj a b (hP.2.2 a ha) (hP.2.2 b hb) e)
        omega
      have hO : (List.range n).mergeSort le ∈ oll n ks := (oll_mem hv).2 ⟨hP.1, hP.2.1, hP.2.2, fun p hp => by
        have hb := hv.2.2.2 p hp
        have hlt := hj p hp
        obtain ⟨i, hi, ei, pi⟩ := plc_some (isP_mem hP hb.1)
        obtain ⟨j, hj', ej, pj⟩ := plc_some (isP_mem hP hb.2.1)
        rw [pi hP.2.1, pj hP.2.1]
        refine Classical.byContradiction fun hcon => ?_
        have hne : i ≠ j := fun e => by subst e; rw [← ei, ← ej] at hlt; omega
        have := List.pairwise_iff_getElem.1 (inc_iff.1 hinc).2 j i hj' hi (by omega)
        rw [ei, ej] at this; omega⟩
      have := sum_1 hO hinc
      unfold incS; omega
  · omega
theorem sum_eqs {N : Nat} {l : List Nat} (hl : l.Nodup) {a b : Nat} (ha : a ∈ l) (hb : b ∈ l) (hab : a ≠ b) (g : Nat → Nat) : sumC N l (fun f => if f a = f b then 1 else 0) g ≤ N ^ (l.length - 1) := by
  have p1 := List.perm_cons_erase ha
  have hb1 : b ∈ l.erase a := (List.mem_erase_of_ne (Ne.symm hab)).2 hb
  have p2 := p1.trans ((List.perm_cons_erase hb1).cons a)
  have hn2 := p2.nodup_iff.1 hl
  rw [sumC_perm p2 hl]
  have hlen := p2.length_eq
  generalize (l.erase a).erase b = r at *
  have hna := (List.nodup_cons.1 hn2)
  have hnb := (List.nodup_cons.1 hna.2)
  have har : a ∉ r := fun h => hna.1 (List.mem_cons_of_mem _ h)
  show sm N (fun x => sm N fun y => sumC N r (fun f => if f a = f b then 1 else 0) (upd (upd g a x) b y)) ≤ _
  have e : ∀ x y, sumC N r (fun f => if f a = f b then 1 else 0) (upd (upd g a x) b y) = if x = y then N ^ r.length else 0 := fun x y => by
    rw [sumC_congr (G := fun _ => if x = y then 1 else 0) r _ fun f _ h => by rw [h a har, h b hnb.1, upd_self, upd_ne hab, upd_self], sumC_const]
    split <;> simp
  rw [sm_congr fun x _ => sm_congr fun y _ => e x y]
  have e2 : ∀ x, x < N → sm N (fun y => if x = y then N ^ r.length else 0) ≤ N ^ r.length := fun x hx => by
    rw [sm_shift (s := x) (N := 1) (by omega) fun y _ h => if_neg (by omega), sm_S, sm_0]
    split <;> omega
  have e3 := sm_mono e2
  rw [sm_const] at e3
  rw [hlen, List.length_cons, List.length_cons, Nat.add_sub_cancel, Nat.pow_succ, Nat.mul_comm]; exact e3
theorem prQ_100 (hn : n ≤ 10) : (prQ n).length ≤ 100 := by
  have h : ∀ m ∈ List.range 11, (prQ m).length ≤ 100 := by decide
  exact h n (List.mem_range.2 (by omega))
theorem A_bounds (hv : VB n ks) {N : Nat} {l : List Nat} (hl : l.Perm (List.range n)) (g : Nat → Nat) : cntQ n ks * Wn N n 0 ≤ sumC N l (JQ ks) g ∧ sumC N l (JQ ks) g ≤ cntQ n ks * Wn N n 0 + 100 * N ^ (n - 1) := by
  have hP := perm_isP hl
  have hI : sumC N l (incS n ks) g = cntQ n ks * Wn N n 0 := by
    show sumC N l (fun f => ((oll n ks).map fun o => one (inc 0 f o)).sum) g = _
    rw [sumC_list (F := fun o f => one (inc 0 f o))]
    have : ∀ o ∈ oll n ks, sumC N l (fun f => one (inc 0 f o)) g = Wn N n 0 := fun o ho => by
      have hO := oll_isP hv o ho
      rw [sumC_perm (hl.trans (isP_perm hO).symm) hP.2.1, sumC_inc o 0 g hO.2.1, hO.1]
    rw [List.map_congr_left this, ← oll_len hv]
    have h0 : ∀ (M : List (List Nat)) (c : Nat), (M.map fun _ => c).sum = M.length * c := fun M c => by induction M with
      | nil => simp
      | cons _ _ ih => rw [List.map_cons, List.sum_cons, ih, List.length_cons, Nat.add_mul]; omega
    exact h0 _ _
  have hC : sumC N l (colS n) g ≤ 100 * N ^ (n - 1) := by
    show sumC N l (fun f => ((prQ n).map fun p => if f p.1 = f p.2 then 1 else 0).sum) g ≤ _
    rw [sumC_list (F := fun (p : Nat × Nat) f => if f p.1 = f p.2 then 1 else 0)]
    have := sum_le' (f := fun p : Nat × Nat => sumC N l (fun f => if f p.1 = f p.2 then 1 else 0) g) (c := N ^ (n - 1)) (prQ n) fun p hp => by
      have hin := prQ_in hp
      have := sum_eqs (N := N) hP.2.1 (isP_mem hP (show p.1 < n by omega)) (isP_mem hP hin.2) (by omega) g
      rwa [hP.1] at this
    exact Nat.le_trans this (Nat.mul_le_mul_right _ (prQ_100 hv.2.1))
  constructor
  · rw [← hI]; exact sumC_mono l g fun f _ _ => incS_le hv
  · refine Nat.le_trans (sumC_mono (G := fun f => incS n ks f + colS n f) l g fun f _ _ => JQ_le hv) ?_
    rw [sumC_add, hI]; omega
end
end Go.Proofs.Ythmibifghihdaaa
end

section
namespace Go.Proofs.Ythmibifghihdaaa
set_option maxRecDepth 20000
open Go.AE
def vl (N x : Nat) (c : Nat → Nat) (i : Nat) : Nat := if i = x then N else c i
def IQ (N x : Nat) (l : List Nat) (ks : List (Nat × Nat)) (c : Nat → Nat) : Nat := if (∀ i ∈ l, c x + 1 ≤ c i ∧ c i < c x + 1 + N) ∧ (∀ p ∈ ks, vl N x c p.1 < vl N x c p.2) then 1 else 0
theorem vl_mx {N x i : Nat} {u v : Nat → Nat} : vl N x (mxF u v) i = max (vl N x u i) (vl N x v i) := by
  unfold vl mxF; split
  · rw [Nat.max_self]
  · rfl
theorem vl_mn {N x i : Nat} {u v : Nat → Nat} : vl N x (mnG u v) i = min (vl N x u i) (vl N x v i) := by
  unfold vl mnG; split
  · rw [Nat.min_self]
  · rfl
theorem IQ_four {N x : Nat} {l : List Nat} {ks : List (Nat × Nat)} {y z : Nat} (u v : Nat → Nat) : IQ N x l (ks ++ [(x, y)]) u * IQ N x l (ks ++ [(x, z)]) v ≤ IQ N x l (ks ++ [(x, y)] ++ [(x, z)]) (mxF u v) * IQ N x l ks (mnG u v) := by
  by_cases h1 : (∀ i ∈ l, u x + 1 ≤ u i ∧ u i < u x + 1 + N) ∧ (∀ p ∈ ks ++ [(x, y)], vl N x u p.1 < vl N x u p.2)
  · by_cases h2 : (∀ i ∈ l, v x + 1 ≤ v i ∧ v i < v x + 1 + N) ∧ (∀ p ∈ ks ++ [(x, z)], vl N x v p.1 < vl N x v p.2)
    · have h3 : IQ N x l (ks ++ [(x, y)] ++ [(x, z)]) (mxF u v) = 1 := if_pos ⟨fun i hi => by
          have := h1.1 i hi; have := h2.1 i hi
          unfold mxF; omega, fun p hp => by
          rw [vl_mx, vl_mx]
          rcases List.mem_append.1 hp with hp | hp
          · rcases List.mem_append.1 hp with hp | hp
            · have := h1.2 p (List.mem_append_left _ hp); have := h2.2 p (List.mem_append_left _ hp); omega
            · simp at hp; subst hp
              have := h1.2 (x, y) (by simp)
              have e : ∀ c, vl N x c x = N := fun c => if_pos rfl
              simp only [e] at this ⊢; omega
          · simp at hp; subst hp
            have := h2.2 (x, z) (by simp)
            have e : ∀ c, vl N x c x = N := fun c => if_pos rfl
            simp only [e] at this ⊢; omega⟩
      have h4 : IQ N x l ks (mnG u v) = 1 := if_pos ⟨fun i hi => by
          have := h1.1 i hi; have := h2.1 i hi
          unfold mnG; omega, fun p hp => by
          rw [vl_mn, vl_mn]
          have := h1.2 p (List.mem_append_left _ hp); have := h2.2 p (List.mem_append_left _ hp); omega⟩
      rw [h3, h4, IQ, if_pos h1, IQ, if_pos h2]; exact Nat.le_refl _
    · rw [IQ, IQ, if_neg h2, Nat.mul_zero]; exact Nat.zero_le _
  · rw [IQ, if_neg h1, Nat.zero_mul]; exact Nat.zero_le _
def bas (x a : Nat) : Nat → Nat := fun i => if i = x then a else a + 1
theorem bas_mx {x a b : Nat} : mxF (bas x a) (bas x b) = bas x (max a b) := by
  funext i; unfold mxF bas; split <;> omega
theorem bas_mn {x a b : Nat} : mnG (bas x a) (bas x b) = bas x (min a b) := by
  funext i; unfold mnG bas; split <;> omega
def tau (N x : Nat) (f : Nat → Nat) : Nat → Nat := fun i => if i = x then N - 1 - f x else f i + (N - f x)
theorem tau_upd {N x i c : Nat} {h : Nat → Nat} (hi : i ≠ x) : upd (tau N x h) i (c + (N - h x)) = tau N x (upd h i c) := by
  have hx : upd h i c x = h x := upd_ne (Ne.symm hi)
  funext j; unfold tau
  rw [hx]
  by_cases hj : j = i
  · subst hj; rw [upd_self, upd_self, if_neg hi]
  · rw [upd_ne hj, upd_ne hj]
theorem shift_sum {N x a : Nat} (ha : a < N) {F : (Nat → Nat) → Nat} : ∀ (l : List Nat) (h : Nat → Nat), l.Nodup → x ∉ l → h x = a → (∀ f, f x = N - 1 - a → ∀ i ∈ l, (f i < N - a ∨ N - a + N ≤ f i) → F f = 0) → sumC (2 * N) l F (tau N x h) = sumC N l (fun f => F (tau N x f)) h
  | [], h, _, _, _, _ => rfl
  | i :: l, h, hn, hx, hh, hF => by
    have hi := List.nodup_cons.1 hn
    have hix : i ≠ x := fun e => hx (by rw [e]; exact List.mem_cons_self)
    have hxl : x ∉ l := fun e => hx (List.mem_cons_of_mem _ e)
    show sm (2 * N) (fun c => sumC (2 * N) l F (upd (tau N x h) i c)) = sm N (fun c => sumC N l (fun f => F (tau N x f)) (upd h i c))
    rw [sm_shift (s := N - a) (N := N) (by omega) fun c _ hc => sumC_zero l _ fun f _ h2 => hF f (by rw [h2 x hxl, upd_ne (Ne.symm hix)]; unfold tau; rw [if_pos rfl, hh]) i List.mem_cons_self (by rw [h2 i hi.1, upd_self]; exact hc)]
    refine sm_congr fun c _ => ?_
    rw [← hh, tau_upd hix]
    rw [← shift_sum ha l (upd h i c) hi.2 hxl (by rw [upd_ne (Ne.symm hix)]; exact hh) fun f h1 j hj h2 => hF f h1 j (List.mem_cons_of_mem _ hj) h2]
theorem bas_tau {N x a : Nat} (ha : a < N) : bas x (N - 1 - a) = tau N x (upd (fun _ => 0) x a) := by
  funext i; unfold bas tau
  rw [upd_self]
  by_cases h : i = x
  · rw [if_pos h, if_pos h]
  · rw [if_neg h, if_neg h, upd_ne h]; omega
theorem IQ_sum {n : Nat} {ks : List (Nat × Nat)} (hk : ∀ p ∈ ks, p.1 < n ∧ p.2 < n) {N x : Nat} {l : List Nat} (hl : (x :: l).Perm (List.range n)) : sm N (fun c => sumC (2 * N) l (IQ N x l ks) (bas x c)) = sumC N (x :: l) (JQ ks) (fun _ => 0) := by
  have hP := perm_isP hl
  have hn := List.nodup_cons.1 hP.2.1
  rw [← sm_rev]
  refine sm_congr fun a ha => ?_
  rw [bas_tau ha, shift_sum (F := IQ N x l ks) ha l _ hn.2 hn.1 upd_self fun f h1 i hi h2 => if_neg fun hc => by have := hc.1 i hi; omega]
  refine sumC_congr l _ fun f h1 h2 => ?_
  have hfx : f x = a := by rw [h2 x hn.1, upd_self]
  have hv : ∀ i, i < n → vl N x (tau N x f) i = f i + (N - a) := fun i hi => by
    unfold vl tau
    by_cases e : i = x
    · rw [if_pos e, e, hfx]; omega
    · rw [if_neg e, if_neg e, hfx]
  unfold IQ JQ
  by_cases hJ : ∀ p ∈ ks, f p.1 < f p.2
  · rw [if_pos hJ, if_pos]
    refine ⟨fun i hi => ?_, fun p hp => ?_⟩
    · have hix : i ≠ x := fun e => hn.1 (e ▸ hi)
      have := h1 i hi
      unfold tau; rw [if_pos rfl, if_neg hix, hfx]; omega
    · have := hk p hp; have := hJ p hp
      rw [hv _ (by omega), hv _ (by omega)]; omega
  · rw [if_neg hJ, if_neg]
    intro hc
    refine hJ fun p hp => ?_
    have := hk p hp; have h3 := hc.2 p hp
    rw [hv _ (by omega), hv _ (by omega)] at h3; omega
theorem A_four {n : Nat} {ks : List (Nat × Nat)} (hk : ∀ p ∈ ks, p.1 < n ∧ p.2 < n) {x y z : Nat} (hx : x < n) (hy : y < n) (hz : z < n) {N : Nat} {l : List Nat} (hl : (x :: l).Perm (List.range n)) : sumC N (x :: l) (JQ (ks ++ [(x, y)])) (fun _ => 0) * sumC N (x :: l) (JQ (ks ++ [(x, z)])) (fun _ => 0) ≤ sumC N (x :: l) (JQ (ks ++ [(x, y)] ++ [(x, z)])) (fun _ => 0) * sumC N (x :: l) (JQ ks) (fun _ => 0) := by
  have k1 : ∀ w, w < n → ∀ p ∈ ks ++ [(x, w)], p.1 < n ∧ p.2 < n := fun w hw p hp => by
    rcases List.mem_append.1 hp with h | h
    · exact hk p h
    · simp at h; subst h; exact ⟨hx, hw⟩
  have k2 : ∀ p ∈ ks ++ [(x, y)] ++ [(x, z)], p.1 < n ∧ p.2 < n := fun p hp => by
    rcases List.mem_append.1 hp with h | h
    · exact k1 y hy p h
    · simp at h; subst h; exact ⟨hx, hz⟩
  rw [← IQ_sum (k1 y hy) hl, ← IQ_sum (k1 z hz) hl, ← IQ_sum k2 hl, ← IQ_sum hk hl]
  refine chain4 N fun a b _ _ => ?_
  have := four_fun (N := 2 * N) (IQ_four (N := N) (x := x) (l := l) (ks := ks) (y := y) (z := z)) l (bas x a) (bas x b)
  rwa [bas_mx, bas_mn] at this
theorem xyz_num {e1 e2 e3 e4 W D : Nat} (h : e2 * W * (e3 * W) ≤ (e4 * W + D) * (e1 * W + D)) (hW : (e4 + e1 + 1) * D < W) : e2 * e3 ≤ e4 * e1 := by
  refine Classical.byContradiction fun hc => ?_
  have h1 : e4 * e1 + 1 ≤ e2 * e3 := by omega
  have a1 : e2 * W * (e3 * W) = e2 * e3 * (W * W) := by simp only [Nat.mul_assoc, Nat.mul_comm, Nat.mul_left_comm]
  have a2 : (e4 * W + D) * (e1 * W + D) = e4 * e1 * (W * W) + (e4 + e1) * D * W + D * D := by
    rw [Nat.add_mul, Nat.mul_add, Nat.mul_add, Nat.add_mul e4 e1, Nat.add_mul]
    have b1 : e4 * W * (e1 * W) = e4 * e1 * (W * W) := by simp only [Nat.mul_assoc, Nat.mul_comm, Nat.mul_left_comm]
    have b2 : e4 * W * D = e4 * D * W := Nat.mul_right_comm _ _ _
    have b3 : D * (e1 * W) = e1 * D * W := by simp only [Nat.mul_assoc, Nat.mul_comm, Nat.mul_left_comm]
    omega
  have a3 : (e4 * e1 + 1) * (W * W) ≤ e2 * e3 * (W * W) := Nat.mul_le_mul_right _ h1
  rw [Nat.add_mul, Nat.one_mul] at a3
  have hDW : D ≤ W := by
    have : 1 * D ≤ (e4 + e1 + 1) * D := Nat.mul_le_mul_right _ (by omega)
    omega
  have a4 : D * D ≤ D * W := Nat.mul_le_mul_left _ hDW
  have a5 : ((e4 + e1 + 1) * D) * W < W * W := Nat.mul_lt_mul_of_pos_right hW (by omega)
  have a6 : ((e4 + e1 + 1) * D) * W = (e4 + e1) * D * W + D * W := by rw [Nat.add_mul (e4 + e1) 1 D, Nat.one_mul, Nat.add_mul]
  rw [a1, a2] at h
  omega
theorem xyz {n : Nat} {ks : List (Nat × Nat)} {x y z : Nat} (hv : VB n ks) (hy : VB n (ks ++ [(x, y)])) (hz : VB n (ks ++ [(x, z)])) (hyz : VB n (ks ++ [(x, y)] ++ [(x, z)])) : cntQ n (ks ++ [(x, y)]) * cntQ n (ks ++ [(x, z)]) ≤ cntQ n (ks ++ [(x, y)] ++ [(x, z)]) * cntQ n ks := by
  have hx : x < n := (hy.2.2.2 (x, y) (by simp)).1
  have hy' : y < n := (hy.2.2.2 (x, y) (by simp)).2.1
  have hz' : z < n := (hz.2.2.2 (x, z) (by simp)).2.1
  have hl : (x :: (List.range n).erase x).Perm (List.range n) := (List.perm_cons_erase (List.mem_range.2 hx)).symm
  obtain ⟨k, rfl⟩ : ∃ k, n = k + 1 := ⟨n - 1, by omega⟩
  generalize hK : (cntQ (k + 1) (ks ++ [(x, y)] ++ [(x, z)]) + cntQ (k + 1) ks + 1) = K
  let m := K * (100 * (k + 1) ^ k) + 1
  let N := (k + 1) * m
  have b1 := (A_bounds hy (N := N) hl fun _ => 0).1
  have b2 := (A_bounds hz (N := N) hl fun _ => 0).1
  have b3 := (A_bounds hyz (N := N) hl fun _ => 0).2
  have b4 := (A_bounds hv (N := N) hl fun _ => 0).2
  have b5 := A_four (N := N) (fun p hp => (vb_lt hv p hp)) hx hy' hz' hl
  have b6 := Nat.le_trans (Nat.mul_le_mul b1 b2) (Nat.le_trans b5 (Nat.mul_le_mul b3 b4))
  refine xyz_num b6 ?_
  have hW : m ^ (k + 1) ≤ Wn N (k + 1) 0 := Wn_lb (k + 1) 0 (by rw [Nat.zero_add]; exact Nat.le_refl _)
  rw [hK, Nat.add_sub_cancel]
  refine Nat.lt_of_lt_of_le ?_ hW
  have e1 : N ^ k = (k + 1) ^ k * m ^ k := Nat.mul_pow _ _ _
  have e2 : K * (100 * N ^ k) = (K * (100 * (k + 1) ^ k)) * m ^ k := by rw [e1]; simp only [Nat.mul_assoc]
  rw [e2, Nat.pow_succ, Nat.mul_comm (m ^ k) m]
  exact Nat.mul_lt_mul_of_pos_right (Nat.lt_succ_self _) (Nat.pow_pos (Nat.succ_pos _))
end Go.Proofs.Ythmibifghihdaaa
end

section
namespace Go.Proofs.Ythmibifghihdaaa
set_option maxRecDepth 20000
open Go.AE
theorem helped_a (b : Bk) (c : Option Nat) (hO : Pure Try.prog 47 [bookA b c] (.bool false)) (one two three : Nat) (hu1 : one < 256) (hu2 : two < 256) (hu3 : three < 256) : Pure Try.prog 12 [bookA b c, .int .u8 (one : Nat), .int .u8 (two : Nat), .int .u8 (three : Nat)] (.bool true) := by
  refine pure_of_body Try.func12 (c := body Try.f12) rfl (by simp [Try.ntmps12]) fun w0 Φ0 => ?_
  refine W_seq rfl ?_
  refine W_reg rfl ?_
  refine Rv rfl rfl rfl (U_boxF rfl rfl rfl) rfl rfl ?_
  refine Rv rfl rfl rfl (U_assign rfl) rfl rfl ?_
  refine Re rfl ?_
  refine thenQ_n ?_
  refine W_seq rfl ?_
  refine W_seq rfl ?_
  refine W_reg rfl ?_
  refine Rv rfl rfl rfl (U_load2 rfl rfl rfl rfl) rfl rfl ?_
  refine Rv rfl rfl rfl (U_call rfl rfl (hO) rfl) rfl rfl ?_
  refine Rv rfl rfl rfl (U_not rfl) rfl rfl ?_
  refine Rv rfl rfl rfl (U_move rfl) rfl rfl ?_
  refine Rs rfl rfl rfl rfl rfl ?_
  refine Rs rfl rfl rfl rfl rfl ?_
  refine Rs rfl rfl rfl rfl rfl ?_
  refine Rv rfl rfl rfl (U_pick_t rfl rfl) rfl rfl ?_
  refine Rv rfl rfl rfl (U_move rfl) rfl rfl ?_
  refine Rs rfl rfl rfl rfl rfl ?_
  refine Rs rfl rfl rfl rfl rfl ?_
  refine Rs rfl rfl rfl rfl rfl ?_
  refine Rs rfl rfl rfl rfl rfl ?_
  refine Rv rfl rfl rfl (U_pick_t rfl rfl) rfl rfl ?_
  refine Re rfl ?_
  refine thenQ_n ?_
  refine Wcond rfl rfl (fun _ => ?_) (fun h => nomatch h)
  refine W_seq rfl ?_
  refine W_reg rfl ?_
  refine Rv rfl rfl rfl (U_call rfl rfl (works_p) rfl) rfl rfl ?_
  refine Rv rfl rfl rfl (U_assign rfl) rfl rfl ?_
  refine Re rfl ?_
  refine thenQ_n ?_
  refine W_ret rfl ?_
  refine thenQ_r ?_
  exact retL (rlT rfl rl0) rfl rfl
theorem helped_b (n : Nat) (ks : List (Nat × Nat)) (c : Option Nat) (hv : VB n ks) (h40 : ks.length ≤ 40) (hO : Pure Try.prog 47 [bknA n ks c] (.bool true)) (hn2 : n < 3) (one two three : Nat) (hu1 : one < 256) (hu2 : two < 256) (hu3 : three < 256) : Pure Try.prog 12 [bknA n ks c, .int .u8 (one : Nat), .int .u8 (two : Nat), .int .u8 (three : Nat)] (.bool true) := by
  have hv' := hv
  obtain ⟨hn1, hn, hkl, hk⟩ := hv'
  have hk2 := vb_lt hv
  refine pure_of_body Try.func12 (c := body Try.f12) rfl (by simp [Try.ntmps12]) fun w0 Φ0 => ?_
  refine W_seq rfl ?_
  refine W_reg rfl ?_
  refine Rv rfl rfl rfl (U_boxF rfl rfl rfl) rfl rfl ?_
  refine Rv rfl rfl rfl (U_assign rfl) rfl rfl ?_
  refine Re rfl ?_
  refine thenQ_n ?_
  refine W_seq rfl ?_
  refine W_seq rfl ?_
  refine W_reg rfl ?_
  refine Rv rfl rfl rfl (U_load2 rfl rfl rfl rfl) rfl rfl ?_
  refine Rv rfl rfl rfl (U_call rfl rfl (hO) rfl) rfl rfl ?_
  refine Rv rfl rfl rfl (U_not rfl) rfl rfl ?_
  refine Rv rfl rfl rfl (U_move rfl) rfl rfl ?_
  refine Rv rfl rfl rfl (U_fieldAddrR rfl) rfl rfl ?_
  refine Rv rfl rfl rfl (U_load1 rfl rfl rfl) rfl rfl ?_
  refine Rv rfl rfl rfl (OpU.toB (U_lss rfl rfl) (decide_eq_true (by omega))) rfl rfl ?_
  refine Rv rfl rfl rfl (U_pick_f rfl rfl) rfl rfl ?_
  refine Rv rfl rfl rfl (U_move rfl) rfl rfl ?_
  refine Rs rfl rfl rfl rfl rfl ?_
  refine Rs rfl rfl rfl rfl rfl ?_
  refine Rs rfl rfl rfl rfl rfl ?_
  refine Rs rfl rfl rfl rfl rfl ?_
  refine Rv rfl rfl rfl (U_pick_t rfl rfl) rfl rfl ?_
  refine Re rfl ?_
  refine thenQ_n ?_
  refine Wcond rfl rfl (fun _ => ?_) (fun h => nomatch h)
  refine W_seq rfl ?_
  refine W_reg rfl ?_
  refine Rv rfl rfl rfl (U_call rfl rfl (works_p) rfl) rfl rfl ?_
  refine Rv rfl rfl rfl (U_assign rfl) rfl rfl ?_
  refine Re rfl ?_
  refine thenQ_n ?_
  refine W_ret rfl ?_
  refine thenQ_r ?_
  exact retL (rlT rfl rl0) rfl rfl
theorem helped_c (n : Nat) (ks : List (Nat × Nat)) (c : Option Nat) (hv : VB n ks) (h40 : ks.length ≤ 40) (hO : Pure Try.prog 47 [bknA n ks c] (.bool true)) (hn2 : ¬ n < 3) (h39 : 40 ≤ ks.length) (one two three : Nat) (hu1 : one < 256) (hu2 : two < 256) (hu3 : three < 256) : Pure Try.prog 12 [bknA n ks c, .int .u8 (one : Nat), .int .u8 (two : Nat), .int .u8 (three : Nat)] (.bool true) := by
  have hv' := hv
  obtain ⟨hn1, hn, hkl, hk⟩ := hv'
  have hk2 := vb_lt hv
  refine pure_of_body Try.func12 (c := body Try.f12) rfl (by simp [Try.ntmps12]) fun w0 Φ0 => ?_
  refine W_seq rfl ?_
  refine W_reg rfl ?_
  refine Rv rfl rfl rfl (U_boxF rfl rfl rfl) rfl rfl ?_
  refine Rv rfl rfl rfl (U_assign rfl) rfl rfl ?_
  refine Re rfl ?_
  refine thenQ_n ?_
  refine W_seq rfl ?_
  refine W_seq rfl ?_
  refine W_reg rfl ?_
  refine Rv rfl rfl rfl (U_load2 rfl rfl rfl rfl) rfl rfl ?_
  refine Rv rfl rfl rfl (U_call rfl rfl (hO) rfl) rfl rfl ?_
  refine Rv rfl rfl rfl (U_not rfl) rfl rfl ?_
  refine Rv rfl rfl rfl (U_move rfl) rfl rfl ?_
  refine Rv rfl rfl rfl (U_fieldAddrR rfl) rfl rfl ?_
  refine Rv rfl rfl rfl (U_load1 rfl rfl rfl) rfl rfl ?_
  refine Rv rfl rfl rfl (OpU.toB (U_lss rfl rfl) (decide_eq_false (by omega))) rfl rfl ?_
  refine Rv rfl rfl rfl (U_pick_f rfl rfl) rfl rfl ?_
  refine Rv rfl rfl rfl (U_move rfl) rfl rfl ?_
  refine Rv rfl rfl rfl (U_fieldAddrR rfl) rfl rfl ?_
  refine Rv rfl rfl rfl (U_load1 rfl rfl rfl) rfl rfl ?_
  refine Rv rfl rfl rfl (U_lenOf rfl len_ros) rfl rfl ?_
  refine Rv rfl rfl rfl (OpU.toB (U_geq rfl rfl) (decide_eq_true (by omega))) rfl rfl ?_
  refine Rv rfl rfl rfl (U_pick_f rfl rfl) rfl rfl ?_
  refine Re rfl ?_
  refine thenQ_n ?_
  refine Wcond rfl rfl (fun _ => ?_) (fun h => nomatch h)
  refine W_seq rfl ?_
  refine W_reg rfl ?_
  refine Rv rfl rfl rfl (U_call rfl rfl (works_p) rfl) rfl rfl ?_
  refine Rv rfl rfl rfl (U_assign rfl) rfl rfl ?_
  refine Re rfl ?_
  refine thenQ_n ?_
  refine W_ret rfl ?_
  refine thenQ_r ?_
  exact retL (rlT rfl rl0) rfl rfl
theorem helped_d (n : Nat) (ks : List (Nat × Nat)) (c : Option Nat) (hv : VB n ks) (h40 : ks.length ≤ 40) (hO : Pure Try.prog 47 [bknA n ks c] (.bool true)) (hn2 : ¬ n < 3) (h39 : ¬ 40 ≤ ks.length) (one two three : Nat) (hu1 : one < 256) (hu2 : two < 256) (hu3 : three < 256) (hyz : ((one % n + 1 + two % (n - 1)) % n) = ((one % n + 1 + three % (n - 1)) % n)) : Pure Try.prog 12 [bknA n ks c, .int .u8 (one : Nat), .int .u8 (two : Nat), .int .u8 (three : Nat)] (.bool true) := by
  have hv' := hv
  obtain ⟨hn1, hn, hkl, hk⟩ := hv'
  have hk2 := vb_lt hv
  have hx : one % n < n := Nat.mod_lt _ (by omega)
  have hty : two % (n - 1) < n - 1 := Nat.mod_lt _ (by omega)
  have htz : three % (n - 1) < n - 1 := Nat.mod_lt _ (by omega)
  have hy : (one % n + 1 + two % (n - 1)) % n < n := Nat.mod_lt _ (by omega)
  have hz : (one % n + 1 + three % (n - 1)) % n < n := Nat.mod_lt _ (by omega)
  refine pure_of_body Try.func12 (c := body Try.f12) rfl (by simp [Try.ntmps12]) fun w0 Φ0 => ?_
  refine W_seq rfl ?_
  refine W_reg rfl ?_
  refine Rv rfl rfl rfl (U_boxF rfl rfl rfl) rfl rfl ?_
  refine Rv rfl rfl rfl (U_assign rfl) rfl rfl ?_
  refine Re rfl ?_
  refine thenQ_n ?_
  refine W_seq rfl ?_
  refine W_seq rfl ?_
  refine W_reg rfl ?_
  refine Rv rfl rfl rfl (U_load2 rfl rfl rfl rfl) rfl rfl ?_
  refine Rv rfl rfl rfl (U_call rfl rfl (hO) rfl) rfl rfl ?_
  refine Rv rfl rfl rfl (U_not rfl) rfl rfl ?_
  refine Rv rfl rfl rfl (U_move rfl) rfl rfl ?_
  refine Rv rfl rfl rfl (U_fieldAddrR rfl) rfl rfl ?_
  refine Rv rfl rfl rfl (U_load1 rfl rfl rfl) rfl rfl ?_
  refine Rv rfl rfl rfl (OpU.toB (U_lss rfl rfl) (decide_eq_false (by omega))) rfl rfl ?_
  refine Rv rfl rfl rfl (U_pick_f rfl rfl) rfl rfl ?_
  refine Rv rfl rfl rfl (U_move rfl) rfl rfl ?_
  refine Rv rfl rfl rfl (U_fieldAddrR rfl) rfl rfl ?_
  refine Rv rfl rfl rfl (U_load1 rfl rfl rfl) rfl rfl ?_
  refine Rv rfl rfl rfl (U_lenOf rfl len_ros) rfl rfl ?_
  refine Rv rfl rfl rfl (OpU.toB (U_geq rfl rfl) (decide_eq_false (by omega))) rfl rfl ?_
  refine Rv rfl rfl rfl (U_pick_f rfl rfl) rfl rfl ?_
  refine Re rfl ?_
  refine thenQ_n ?_
  refine Wcond rfl rfl (fun h => nomatch h) (fun _ => ?_)
  refine W_skip rfl ?_
  refine thenQ_n ?_
  refine W_seq rfl ?_
  refine W_reg rfl ?_
  refine Rv rfl rfl rfl (U_move rfl) rfl rfl ?_
  refine Rv rfl rfl rfl (U_convInt (by rfl) rfl (wr_i64 (by omega) (by omega))) rfl rfl ?_
  refine Rv rfl rfl rfl (U_fieldAddrR rfl) rfl rfl ?_
  refine Rv rfl rfl rfl (U_load1 rfl rfl rfl) rfl rfl ?_
  refine Rv rfl rfl rfl (U_rem (c := ((one % n : Nat) : Int)) rfl rfl (by omega) (tmodN _ _)) rfl rfl ?_
  refine Rv rfl rfl rfl (U_assign rfl) rfl rfl ?_
  refine Re rfl ?_
  refine thenQ_n ?_
  refine W_seq rfl ?_
  refine Wdraw rfl (by kernel_rfl) (by kernel_rfl) ?_
  refine Dv rfl rfl rfl (U_move rfl) rfl rfl ?_
  refine Dv rfl rfl rfl (U_add rfl rfl (w64e (m := ((one % n + 1 : Nat) : Int)) (by omega) (by omega) (by omega))) rfl rfl ?_
  refine Dv rfl rfl rfl (U_move rfl) rfl rfl ?_
  refine Dv rfl rfl rfl (U_convInt (by rfl) rfl (wr_i64 (by omega) (by omega))) rfl rfl ?_
  refine Dv rfl rfl rfl (U_fieldAddrR rfl) rfl rfl ?_
  refine Dv rfl rfl rfl (U_load1 rfl rfl rfl) rfl rfl ?_
  refine Dv rfl rfl rfl (U_sub rfl rfl (w64e (m := ((n - 1 : Nat) : Int)) (by omega) (by omega) (by omega))) rfl rfl ?_
  refine Dv rfl rfl rfl (U_rem (c := ((two % (n - 1) : Nat) : Int)) rfl rfl (by omega) (tmodN _ _)) rfl rfl ?_
  refine Dv rfl rfl rfl (U_add rfl rfl (w64e (m := ((one % n + 1 + two % (n - 1) : Nat) : Int)) (by omega) (by omega) (by omega))) rfl rfl ?_
  refine Dv rfl rfl rfl (U_fieldAddrR rfl) rfl rfl ?_
  refine Dv rfl rfl rfl (U_load1 rfl rfl rfl) rfl rfl ?_
  refine Dv rfl rfl rfl (U_rem (c := (((one % n + 1 + two % (n - 1)) % n : Nat) : Int)) rfl rfl (by omega) (tmodN _ _)) rfl rfl ?_
  refine Dv rfl rfl rfl (U_assign rfl) rfl rfl ?_
  refine Dr.nil rfl ?_
  refine thenQ_n ?_
  refine W_seq rfl ?_
  refine Wdraw rfl (by kernel_rfl) (by kernel_rfl) ?_
  refine Dv rfl rfl rfl (U_move rfl) rfl rfl ?_
  refine Dv rfl rfl rfl (U_add rfl rfl (w64e (m := ((one % n + 1 : Nat) : Int)) (by omega) (by omega) (by omega))) rfl rfl ?_
  refine Dv rfl rfl rfl (U_move rfl) rfl rfl ?_
  refine Dv rfl rfl rfl (U_convInt (by rfl) rfl (wr_i64 (by omega) (by omega))) rfl rfl ?_
  refine Dv rfl rfl rfl (U_fieldAddrR rfl) rfl rfl ?_
  refine Dv rfl rfl rfl (U_load1 rfl rfl rfl) rfl rfl ?_
  refine Dv rfl rfl rfl (U_sub rfl rfl (w64e (m := ((n - 1 : Nat) : Int)) (by omega) (by omega) (by omega))) rfl rfl ?_
  refine Dv rfl rfl rfl (U_rem (c := ((three % (n - 1) : Nat) : Int)) rfl rfl (by omega) (tmodN _ _)) rfl rfl ?_
  refine Dv rfl rfl rfl (U_add rfl rfl (w64e (m := ((one % n + 1 + three % (n - 1) : Nat) : Int)) (by omega) (by omega) (by omega))) rfl rfl ?_
  refine Dv rfl rfl rfl (U_fieldAddrR rfl) rfl rfl ?_
  refine Dv rfl rfl rfl (U_load1 rfl rfl rfl) rfl rfl ?_
  refine Dv rfl rfl rfl (U_rem (c := (((one % n + 1 + three % (n - 1)) % n : Nat) : Int)) rfl rfl (by omega) (tmodN _ _)) rfl rfl ?_
  refine Dv rfl rfl rfl (U_assign rfl) rfl rfl ?_
  refine Dr.nil rfl ?_
  refine thenQ_n ?_
  refine W_seq rfl ?_
  refine W_reg rfl ?_
  refine Rv rfl rfl rfl (U_load2 rfl rfl rfl rfl) rfl rfl ?_
  refine Rv rfl rfl rfl (U_move rfl) rfl rfl ?_
  refine Rv rfl rfl rfl (U_move rfl) rfl rfl ?_
  refine Rv rfl rfl rfl (U_call rfl rfl (withR_p n ks c (by omega) (one % n) ((one % n + 1 + two % (n - 1)) % n)) rfl) rfl rfl ?_
  refine Ra rfl rfl rfl (U_alloc) rfl rfl rfl ?_
  refine Rn rfl rfl rfl (U_storeAll rfl rfl rfl rfl rfl rfl) rfl ?_
  refine Re rfl ?_
  refine thenQ_n ?_
  refine WfrN 0 rfl rfl (T' := [(4, .rop [i64 ((n : Nat) : Int), .ros (ks.flatMap lkN) ks.length c] 0), (9, i64 ((one % n : Nat) : Int)), (10, i64 (((one % n + 1 + two % (n - 1)) % n : Nat) : Int)), (11, i64 (((one % n + 1 + three % (n - 1)) % n : Nat) : Int)), (12, .rop [i64 ((n : Nat) : Int), .ros ((ks ++ [((one % n), ((one % n + 1 + two % (n - 1)) % n))]).flatMap lkN) ((ks ++ [((one % n), ((one % n + 1 + two % (n - 1)) % n))]).length) none] 0)]) (H' := []) ⟨⟨_, rfl, rfl⟩, ⟨_, rfl, rfl⟩, ⟨_, rfl, rfl⟩, ⟨_, rfl, rfl⟩, ⟨_, rfl, rfl⟩, trivial⟩ trivial ?_
  refine W_seq rfl ?_
  refine W_seq rfl ?_
  refine W_reg rfl ?_
  refine Rv rfl rfl rfl (U_move rfl) rfl rfl ?_
  refine Rv rfl rfl rfl (U_move rfl) rfl rfl ?_
  refine Rv rfl rfl rfl (OpU.toB (U_eql rfl rfl) (decide_eq_true (by omega))) rfl rfl ?_
  refine Rv rfl rfl rfl (U_move rfl) rfl rfl ?_
  refine Rs rfl rfl rfl rfl rfl ?_
  refine Rs rfl rfl rfl rfl rfl ?_
  refine Rs rfl rfl rfl rfl rfl ?_
  refine Rv rfl rfl rfl (U_pick_t rfl rfl) rfl rfl ?_
  refine Re rfl ?_
  refine thenQ_n ?_
  refine Wcond rfl rfl (fun _ => ?_) (fun h => nomatch h)
  refine W_seq rfl ?_
  refine W_reg rfl ?_
  refine Rv rfl rfl rfl (U_call rfl rfl (works_p) rfl) rfl rfl ?_
  refine Rv rfl rfl rfl (U_assign rfl) rfl rfl ?_
  refine Re rfl ?_
  refine thenQ_n ?_
  refine W_ret rfl ?_
  refine thenQ_r ?_
  exact retL (rlT rfl rl0) rfl rfl
theorem helped_e (n : Nat) (ks : List (Nat × Nat)) (c : Option Nat) (hv : VB n ks) (h40 : ks.length ≤ 40) (hO : Pure Try.prog 47 [bknA n ks c] (.bool true)) (hn2 : ¬ n < 3) (h39 : ¬ 40 ≤ ks.length) (one two three : Nat) (hu1 : one < 256) (hu2 : two < 256) (hu3 : three < 256) (hyz : ((one % n + 1 + two % (n - 1)) % n) ≠ ((one % n + 1 + three % (n - 1)) % n)) (hM : Pure Try.prog 47 [bknA n (ks ++ [((one % n), ((one % n + 1 + two % (n - 1)) % n))]) none] (.bool false)) : Pure Try.prog 12 [bknA n ks c, .int .u8 (one : Nat), .int .u8 (two : Nat), .int .u8 (three : Nat)] (.bool true) := by
  have hv' := hv
  obtain ⟨hn1, hn, hkl, hk⟩ := hv'
  have hk2 := vb_lt hv
  have hx : one % n < n := Nat.mod_lt _ (by omega)
  have hty : two % (n - 1) < n - 1 := Nat.mod_lt _ (by omega)
  have htz : three % (n - 1) < n - 1 := Nat.mod_lt _ (by omega)
  have hy : (one % n + 1 + two % (n - 1)) % n < n := Nat.mod_lt _ (by omega)
  have hz : (one % n + 1 + three % (n - 1)) % n < n := Nat.mod_lt _ (by omega)
  refine pure_of_body Try.func12 (c := body Try.f12) rfl (by simp [Try.ntmps12]) fun w0 Φ0 => ?_
  refine W_seq rfl ?_
  refine W_reg rfl ?_
  refine Rv rfl rfl rfl (U_boxF rfl rfl rfl) rfl rfl ?_
  refine Rv rfl rfl rfl (U_assign rfl) rfl rfl ?_
  refine Re rfl ?_
  refine thenQ_n ?_
  refine W_seq rfl ?_
  refine W_seq rfl ?_
  refine W_reg rfl ?_
  refine Rv rfl rfl rfl (U_load2 rfl rfl rfl rfl) rfl rfl ?_
  refine Rv rfl rfl rfl (U_call rfl rfl (hO) rfl) rfl rfl ?_
  refine Rv rfl rfl rfl (U_not rfl) rfl rfl ?_
  refine Rv rfl rfl rfl (U_move rfl) rfl rfl ?_
  refine Rv rfl rfl rfl (U_fieldAddrR rfl) rfl rfl ?_
  refine Rv rfl rfl rfl (U_load1 rfl rfl rfl) rfl rfl ?_
  refine Rv rfl rfl rfl (OpU.toB (U_lss rfl rfl) (decide_eq_false (by omega))) rfl rfl ?_
  refine Rv rfl rfl rfl (U_pick_f rfl rfl) rfl rfl ?_
  refine Rv rfl rfl rfl (U_move rfl) rfl rfl ?_
  refine Rv rfl rfl rfl (U_fieldAddrR rfl) rfl rfl ?_
  refine Rv rfl rfl rfl (U_load1 rfl rfl rfl) rfl rfl ?_
  refine Rv rfl rfl rfl (U_lenOf rfl len_ros) rfl rfl ?_
  refine Rv rfl rfl rfl (OpU.toB (U_geq rfl rfl) (decide_eq_false (by omega))) rfl rfl ?_
  refine Rv rfl rfl rfl (U_pick_f rfl rfl) rfl rfl ?_
  refine Re rfl ?_
  refine thenQ_n ?_
  refine Wcond rfl rfl (fun h => nomatch h) (fun _ => ?_)
  refine W_skip rfl ?_
  refine thenQ_n ?_
  refine W_seq rfl ?_
  refine W_reg rfl ?_
  refine Rv rfl rfl rfl (U_move rfl) rfl rfl ?_
  refine Rv rfl rfl rfl (U_convInt (by rfl) rfl (wr_i64 (by omega) (by omega))) rfl rfl ?_
  refine Rv rfl rfl rfl (U_fieldAddrR rfl) rfl rfl ?_
  refine Rv rfl rfl rfl (U_load1 rfl rfl rfl) rfl rfl ?_
  refine Rv rfl rfl rfl (U_rem (c := ((one % n : Nat) : Int)) rfl rfl (by omega) (tmodN _ _)) rfl rfl ?_
  refine Rv rfl rfl rfl (U_assign rfl) rfl rfl ?_
  refine Re rfl ?_
  refine thenQ_n ?_
  refine W_seq rfl ?_
  refine Wdraw rfl (by kernel_rfl) (by kernel_rfl) ?_
  refine Dv rfl rfl rfl (U_move rfl) rfl rfl ?_
  refine Dv rfl rfl rfl (U_add rfl rfl (w64e (m := ((one % n + 1 : Nat) : Int)) (by omega) (by omega) (by omega))) rfl rfl ?_
  refine Dv rfl rfl rfl (U_move rfl) rfl rfl ?_
  refine Dv rfl rfl rfl (U_convInt (by rfl) rfl (wr_i64 (by omega) (by omega))) rfl rfl ?_
  refine Dv rfl rfl rfl (U_fieldAddrR rfl) rfl rfl ?_
  refine Dv rfl rfl rfl (U_load1 rfl rfl rfl) rfl rfl ?_
  refine Dv rfl rfl rfl (U_sub rfl rfl (w64e (m := ((n - 1 : Nat) : Int)) (by omega) (by omega) (by omega))) rfl rfl ?_
  refine Dv rfl rfl rfl (U_rem (c := ((two % (n - 1) : Nat) : Int)) rfl rfl (by omega) (tmodN _ _)) rfl rfl ?_
  refine Dv rfl rfl rfl (U_add rfl rfl (w64e (m := ((one % n + 1 + two % (n - 1) : Nat) : Int)) (by omega) (by omega) (by omega))) rfl rfl ?_
  refine Dv rfl rfl rfl (U_fieldAddrR rfl) rfl rfl ?_
  refine Dv rfl rfl rfl (U_load1 rfl rfl rfl) rfl rfl ?_
  refine Dv rfl rfl rfl (U_rem (c := (((one % n + 1 + two % (n - 1)) % n : Nat) : Int)) rfl rfl (by omega) (tmodN _ _)) rfl rfl ?_
  refine Dv rfl rfl rfl (U_assign rfl) rfl rfl ?_
  refine Dr.nil rfl ?_
  refine thenQ_n ?_
  refine W_seq rfl ?_
  refine Wdraw rfl (by kernel_rfl) (by kernel_rfl) ?_
  refine Dv rfl rfl rfl (U_move rfl) rfl rfl ?_
  refine Dv rfl rfl rfl (U_add rfl rfl (w64e (m := ((one % n + 1 : Nat) : Int)) (by omega) (by omega) (by omega))) rfl rfl ?_
  refine Dv rfl rfl rfl (U_move rfl) rfl rfl ?_
  refine Dv rfl rfl rfl (U_convInt (by rfl) rfl (wr_i64 (by omega) (by omega))) rfl rfl ?_
  refine Dv rfl rfl rfl (U_fieldAddrR rfl) rfl rfl ?_
  refine Dv rfl rfl rfl (U_load1 rfl rfl rfl) rfl rfl ?_
  refine Dv rfl rfl rfl (U_sub rfl rfl (w64e (m := ((n - 1 : Nat) : Int)) (by omega) (by omega) (by omega))) rfl rfl ?_
  refine Dv rfl rfl rfl (U_rem (c := ((three % (n - 1) : Nat) : Int)) rfl rfl (by omega) (tmodN _ _)) rfl rfl ?_
  refine Dv rfl rfl rfl (U_add rfl rfl (w64e (m := ((one % n + 1 + three % (n - 1) : Nat) : Int)) (by omega) (by omega) (by omega))) rfl rfl ?_
  refine Dv rfl rfl rfl (U_fieldAddrR rfl) rfl rfl ?_
  refine Dv rfl rfl rfl (U_load1 rfl rfl rfl) rfl rfl ?_
  refine Dv rfl rfl rfl (U_rem (c := (((one % n + 1 + three % (n - 1)) % n : Nat) : Int)) rfl rfl (by omega) (tmodN _ _)) rfl rfl ?_
  refine Dv rfl rfl rfl (U_assign rfl) rfl rfl ?_
  refine Dr.nil rfl ?_
  refine thenQ_n ?_
  refine W_seq rfl ?_
  refine W_reg rfl ?_
  refine Rv rfl rfl rfl (U_load2 rfl rfl rfl rfl) rfl rfl ?_
  refine Rv rfl rfl rfl (U_move rfl) rfl rfl ?_
  refine Rv rfl rfl rfl (U_move rfl) rfl rfl ?_
  refine Rv rfl rfl rfl (U_call rfl rfl (withR_p n ks c (by omega) (one % n) ((one % n + 1 + two % (n - 1)) % n)) rfl) rfl rfl ?_
  refine Ra rfl rfl rfl (U_alloc) rfl rfl rfl ?_
  refine Rn rfl rfl rfl (U_storeAll rfl rfl rfl rfl rfl rfl) rfl ?_
  refine Re rfl ?_
  refine thenQ_n ?_
  refine WfrN 0 rfl rfl (T' := [(4, .rop [i64 ((n : Nat) : Int), .ros (ks.flatMap lkN) ks.length c] 0), (9, i64 ((one % n : Nat) : Int)), (10, i64 (((one % n + 1 + two % (n - 1)) % n : Nat) : Int)), (11, i64 (((one % n + 1 + three % (n - 1)) % n : Nat) : Int)), (12, .rop [i64 ((n : Nat) : Int), .ros ((ks ++ [((one % n), ((one % n + 1 + two % (n - 1)) % n))]).flatMap lkN) ((ks ++ [((one % n), ((one % n + 1 + two % (n - 1)) % n))]).length) none] 0)]) (H' := []) ⟨⟨_, rfl, rfl⟩, ⟨_, rfl, rfl⟩, ⟨_, rfl, rfl⟩, ⟨_, rfl, rfl⟩, ⟨_, rfl, rfl⟩, trivial⟩ trivial ?_
  refine W_seq rfl ?_
  refine W_seq rfl ?_
  refine W_reg rfl ?_
  refine Rv rfl rfl rfl (U_move rfl) rfl rfl ?_
  refine Rv rfl rfl rfl (U_move rfl) rfl rfl ?_
  refine Rv rfl rfl rfl (OpU.toB (U_eql rfl rfl) (decide_eq_false (by omega))) rfl rfl ?_
  refine Rv rfl rfl rfl (U_move rfl) rfl rfl ?_
  refine Rv rfl rfl rfl (U_load2 rfl rfl rfl rfl) rfl rfl ?_
  refine Rv rfl rfl rfl (U_call rfl rfl (hM) rfl) rfl rfl ?_
  refine Rv rfl rfl rfl (U_not rfl) rfl rfl ?_
  refine Rv rfl rfl rfl (U_pick_f rfl rfl) rfl rfl ?_
  refine Re rfl ?_
  refine thenQ_n ?_
  refine Wcond rfl rfl (fun _ => ?_) (fun h => nomatch h)
  refine W_seq rfl ?_
  refine W_reg rfl ?_
  refine Rv rfl rfl rfl (U_call rfl rfl (works_p) rfl) rfl rfl ?_
  refine Rv rfl rfl rfl (U_assign rfl) rfl rfl ?_
  refine Re rfl ?_
  refine thenQ_n ?_
  refine W_ret rfl ?_
  refine thenQ_r ?_
  exact retL (rlT rfl rl0) rfl rfl
theorem helped_f (n : Nat) (ks : List (Nat × Nat)) (c : Option Nat) (hv : VB n ks) (h40 : ks.length ≤ 40) (hO : Pure Try.prog 47 [bknA n ks c] (.bool true)) (hn2 : ¬ n < 3) (h39 : ¬ 40 ≤ ks.length) (one two three : Nat) (hu1 : one < 256) (hu2 : two < 256) (hu3 : three < 256) (hyz : ((one % n + 1 + two % (n - 1)) % n) ≠ ((one % n + 1 + three % (n - 1)) % n)) (p1 p2 q1 q2 m1 m2 : Nat) (k1 k2 : Int) (hp : 1 ≤ p2 ∧ p2 ≤ 3628800 ∧ p1 ≤ p2) (hq : 1 ≤ q2 ∧ q2 ≤ 3628800 ∧ q1 ≤ q2) (hpq : p1 * q2 ≤ q1 * p2) (hm : 0 < m2 ∧ m2 ≤ m1) (hk2 : k1 ≠ 2 ∨ k2 = 2) (hk0 : k1 ≠ 0 ∨ k2 = 0) (hM : Pure Try.prog 47 [bknA n (ks ++ [((one % n), ((one % n + 1 + two % (n - 1)) % n))]) none] (.bool true)) (h35 : Pure Try.prog 35 [bknA n ks c, i64 ((one % n) : Nat), i64 (((one % n + 1 + three % (n - 1)) % n) : Nat)] (.tup [.agg [i64 (p1 : Nat), i64 (p2 : Nat)], i64 0])) (h35x : Pure Try.prog 35 [bknA n (ks ++ [((one % n), ((one % n + 1 + two % (n - 1)) % n))]) none, i64 ((one % n) : Nat), i64 (((one % n + 1 + three % (n - 1)) % n) : Nat)] (.tup [.agg [i64 (q1 : Nat), i64 (q2 : Nat)], i64 0])) (h28 : Pure Try.prog 28 [bknA n ks c] (.tup [i64 (m1 : Nat), i64 0])) (h28x : Pure Try.prog 28 [bknA n (ks ++ [((one % n), ((one % n + 1 + two % (n - 1)) % n))]) none] (.tup [i64 (m2 : Nat), i64 0])) (h33 : Pure Try.prog 33 [bknA n ks c, i64 (((one % n + 1 + three % (n - 1)) % n) : Nat), i64 ((one % n) : Nat)] (.tup [i64 k1, i64 0])) (h33x : Pure Try.prog 33 [bknA n (ks ++ [((one % n), ((one % n + 1 + two % (n - 1)) % n))]) none, i64 (((one % n + 1 + three % (n - 1)) % n) : Nat), i64 ((one % n) : Nat)] (.tup [i64 k2, i64 0])) : Pure Try.prog 12 [bknA n ks c, .int .u8 (one : Nat), .int .u8 (two : Nat), .int .u8 (three : Nat)] (.bool true) := by
  have hv' := hv
  obtain ⟨hn1, hn, hkl, hk⟩ := hv'
  have hk2 := vb_lt hv
  have hx : one % n < n := Nat.mod_lt _ (by omega)
  have hty : two % (n - 1) < n - 1 := Nat.mod_lt _ (by omega)
  have htz : three % (n - 1) < n - 1 := Nat.mod_lt _ (by omega)
  have hy : (one % n + 1 + two % (n - 1)) % n < n := Nat.mod_lt _ (by omega)
  have hz : (one % n + 1 + three % (n - 1)) % n < n := Nat.mod_lt _ (by omega)
  have hb1 : p1 * q2 ≤ 3628800 * 3628800 := Nat.mul_le_mul (by omega) (by omega)
  have hb2 : q1 * p2 ≤ 3628800 * 3628800 := Nat.mul_le_mul (by omega) (by omega)
  refine pure_of_body Try.func12 (c := body Try.f12) rfl (by simp [Try.ntmps12]) fun w0 Φ0 => ?_
  refine W_seq rfl ?_
  refine W_reg rfl ?_
  refine Rv rfl rfl rfl (U_boxF rfl rfl rfl) rfl rfl ?_
  refine Rv rfl rfl rfl (U_assign rfl) rfl rfl ?_
  refine Re rfl ?_
  refine thenQ_n ?_
  refine W_seq rfl ?_
  refine W_seq rfl ?_
  refine W_reg rfl ?_
  refine Rv rfl rfl rfl (U_load2 rfl rfl rfl rfl) rfl rfl ?_
  refine Rv rfl rfl rfl (U_call rfl rfl (hO) rfl) rfl rfl ?_
  refine Rv rfl rfl rfl (U_not rfl) rfl rfl ?_
  refine Rv rfl rfl rfl (U_move rfl) rfl rfl ?_
  refine Rv rfl rfl rfl (U_fieldAddrR rfl) rfl rfl ?_
  refine Rv rfl rfl rfl (U_load1 rfl rfl rfl) rfl rfl ?_
  refine Rv rfl rfl rfl (OpU.toB (U_lss rfl rfl) (decide_eq_false (by omega))) rfl rfl ?_
  refine Rv rfl rfl rfl (U_pick_f rfl rfl) rfl rfl ?_
  refine Rv rfl rfl rfl (U_move rfl) rfl rfl ?_
  refine Rv rfl rfl rfl (U_fieldAddrR rfl) rfl rfl ?_
  refine Rv rfl rfl rfl (U_load1 rfl rfl rfl) rfl rfl ?_
  refine Rv rfl rfl rfl (U_lenOf rfl len_ros) rfl rfl ?_
  refine Rv rfl rfl rfl (OpU.toB (U_geq rfl rfl) (decide_eq_false (by omega))) rfl rfl ?_
  refine Rv rfl rfl rfl (U_pick_f rfl rfl) rfl rfl ?_
  refine Re rfl ?_
  refine thenQ_n ?_
  refine Wcond rfl rfl (fun h => nomatch h) (fun _ => ?_)
  refine W_skip rfl ?_
  refine thenQ_n ?_
  refine W_seq rfl ?_
  refine W_reg rfl ?_
  refine Rv rfl rfl rfl (U_move rfl) rfl rfl ?_
  refine Rv rfl rfl rfl (U_convInt (by rfl) rfl (wr_i64 (by omega) (by omega))) rfl rfl ?_
  refine Rv rfl rfl rfl (U_fieldAddrR rfl) rfl rfl ?_
  refine Rv rfl rfl rfl (U_load1 rfl rfl rfl) rfl rfl ?_
  refine Rv rfl rfl rfl (U_rem (c := ((one % n : Nat) : Int)) rfl rfl (by omega) (tmodN _ _)) rfl rfl ?_
  refine Rv rfl rfl rfl (U_assign rfl) rfl rfl ?_
  refine Re rfl ?_
  refine thenQ_n ?_
  refine W_seq rfl ?_
  refine Wdraw rfl (by kernel_rfl) (by kernel_rfl) ?_
  refine Dv rfl rfl rfl (U_move rfl) rfl rfl ?_
  refine Dv rfl rfl rfl (U_add rfl rfl (w64e (m := ((one % n + 1 : Nat) : Int)) (by omega) (by omega) (by omega))) rfl rfl ?_
  refine Dv rfl rfl rfl (U_move rfl) rfl rfl ?_
  refine Dv rfl rfl rfl (U_convInt (by rfl) rfl (wr_i64 (by omega) (by omega))) rfl rfl ?_
  refine Dv rfl rfl rfl (U_fieldAddrR rfl) rfl rfl ?_
  refine Dv rfl rfl rfl (U_load1 rfl rfl rfl) rfl rfl ?_
  refine Dv rfl rfl rfl (U_sub rfl rfl (w64e (m := ((n - 1 : Nat) : Int)) (by omega) (by omega) (by omega))) rfl rfl ?_
  refine Dv rfl rfl rfl (U_rem (c := ((two % (n - 1) : Nat) : Int)) rfl rfl (by omega) (tmodN _ _)) rfl rfl ?_
  refine Dv rfl rfl rfl (U_add rfl rfl (w64e (m := ((one % n + 1 + two % (n - 1) : Nat) : Int)) (by omega) (by omega) (by omega))) rfl rfl ?_
  refine Dv rfl rfl rfl (U_fieldAddrR rfl) rfl rfl ?_
  refine Dv rfl rfl rfl (U_load1 rfl rfl rfl) rfl rfl ?_
  refine Dv rfl rfl rfl (U_rem (c := (((one % n + 1 + two % (n - 1)) % n : Nat) : Int)) rfl rfl (by omega) (tmodN _ _)) rfl rfl ?_
  refine Dv rfl rfl rfl (U_assign rfl) rfl rfl ?_
  refine Dr.nil rfl ?_
  refine thenQ_n ?_
  refine W_seq rfl ?_
  refine Wdraw rfl (by kernel_rfl) (by kernel_rfl) ?_
  refine Dv rfl rfl rfl (U_move rfl) rfl rfl ?_
  refine Dv rfl rfl rfl (U_add rfl rfl (w64e (m := ((one % n + 1 : Nat) : Int)) (by omega) (by omega) (by omega))) rfl rfl ?_
  refine Dv rfl rfl rfl (U_move rfl) rfl rfl ?_
  refine Dv rfl rfl rfl (U_convInt (by rfl) rfl (wr_i64 (by omega) (by omega))) rfl rfl ?_
  refine Dv rfl rfl rfl (U_fieldAddrR rfl) rfl rfl ?_
  refine Dv rfl rfl rfl (U_load1 rfl rfl rfl) rfl rfl ?_
  refine Dv rfl rfl rfl (U_sub rfl rfl (w64e (m := ((n - 1 : Nat) : Int)) (by omega) (by omega) (by omega))) rfl rfl ?_
  refine Dv rfl rfl rfl (U_rem (c := ((three % (n - 1) : Nat) : Int)) rfl rfl (by omega) (tmodN _ _)) rfl rfl ?_
  refine Dv rfl rfl rfl (U_add rfl rfl (w64e (m := ((one % n + 1 + three % (n - 1) : Nat) : Int)) (by omega) (by omega) (by omega))) rfl rfl ?_
  refine Dv rfl rfl rfl (U_fieldAddrR rfl) rfl rfl ?_
  refine Dv rfl rfl rfl (U_load1 rfl rfl rfl) rfl rfl ?_
  refine Dv rfl rfl rfl (U_rem (c := (((one % n + 1 + three % (n - 1)) % n : Nat) : Int)) rfl rfl (by omega) (tmodN _ _)) rfl rfl ?_
  refine Dv rfl rfl rfl (U_assign rfl) rfl rfl ?_
  refine Dr.nil rfl ?_
  refine thenQ_n ?_
  refine W_seq rfl ?_
  refine W_reg rfl ?_
  refine Rv rfl rfl rfl (U_load2 rfl rfl rfl rfl) rfl rfl ?_
  refine Rv rfl rfl rfl (U_move rfl) rfl rfl ?_
  refine Rv rfl rfl rfl (U_move rfl) rfl rfl ?_
  refine Rv rfl rfl rfl (U_call rfl rfl (withR_p n ks c (by omega) (one % n) ((one % n + 1 + two % (n - 1)) % n)) rfl) rfl rfl ?_
  refine Ra rfl rfl rfl (U_alloc) rfl rfl rfl ?_
  refine Rn rfl rfl rfl (U_storeAll rfl rfl rfl rfl rfl rfl) rfl ?_
  refine Re rfl ?_
  refine thenQ_n ?_
  refine WfrN 0 rfl rfl (T' := [(4, .rop [i64 ((n : Nat) : Int), .ros (ks.flatMap lkN) ks.length c] 0), (9, i64 ((one % n : Nat) : Int)), (10, i64 (((one % n + 1 + two % (n - 1)) % n : Nat) : Int)), (11, i64 (((one % n + 1 + three % (n - 1)) % n : Nat) : Int)), (12, .rop [i64 ((n : Nat) : Int), .ros ((ks ++ [((one % n), ((one % n + 1 + two % (n - 1)) % n))]).flatMap lkN) ((ks ++ [((one % n), ((one % n + 1 + two % (n - 1)) % n))]).length) none] 0)]) (H' := []) ⟨⟨_, rfl, rfl⟩, ⟨_, rfl, rfl⟩, ⟨_, rfl, rfl⟩, ⟨_, rfl, rfl⟩, ⟨_, rfl, rfl⟩, trivial⟩ trivial ?_
  refine W_seq rfl ?_
  refine W_seq rfl ?_
  refine W_reg rfl ?_
  refine Rv rfl rfl rfl (U_move rfl) rfl rfl ?_
  refine Rv rfl rfl rfl (U_move rfl) rfl rfl ?_
  refine Rv rfl rfl rfl (OpU.toB (U_eql rfl rfl) (decide_eq_false (by omega))) rfl rfl ?_
  refine Rv rfl rfl rfl (U_move rfl) rfl rfl ?_
  refine Rv rfl rfl rfl (U_load2 rfl rfl rfl rfl) rfl rfl ?_
  refine Rv rfl rfl rfl (U_call rfl rfl (hM) rfl) rfl rfl ?_
  refine Rv rfl rfl rfl (U_not rfl) rfl rfl ?_
  refine Rv rfl rfl rfl (U_pick_f rfl rfl) rfl rfl ?_
  refine Re rfl ?_
  refine thenQ_n ?_
  refine Wcond rfl rfl (fun h => nomatch h) (fun _ => ?_)
  refine W_skip rfl ?_
  refine thenQ_n ?_
  refine W_seq rfl ?_
  refine W_reg rfl ?_
  refine Rv rfl rfl rfl (U_load2 rfl rfl rfl rfl) rfl rfl ?_
  refine Rv rfl rfl rfl (U_move rfl) rfl rfl ?_
  refine Rv rfl rfl rfl (U_move rfl) rfl rfl ?_
  refine Rv rfl rfl rfl (U_call rfl rfl (h35) rfl) rfl rfl ?_
  refine Rv rfl rfl rfl (U_move rfl) rfl rfl ?_
  refine Rv rfl rfl rfl (U_extract rfl rfl) rfl rfl ?_
  refine Rv rfl rfl rfl (U_extract rfl rfl) rfl rfl ?_
  refine Ra rfl rfl rfl (U_alloc) rfl rfl rfl ?_
  refine Rn rfl rfl rfl (U_storeAll rfl rfl rfl rfl rfl rfl) rfl ?_
  refine Rv rfl rfl rfl (U_assign rfl) rfl rfl ?_
  refine Re rfl ?_
  refine thenQ_n ?_
  refine WfrN 1 rfl rfl (T' := [(4, .rop [i64 ((n : Nat) : Int), .ros (ks.flatMap lkN) ks.length c] 0), (9, i64 ((one % n : Nat) : Int)), (11, i64 (((one % n + 1 + three % (n - 1)) % n : Nat) : Int)), (12, .rop [i64 ((n : Nat) : Int), .ros ((ks ++ [((one % n), ((one % n + 1 + two % (n - 1)) % n))]).flatMap lkN) ((ks ++ [((one % n), ((one % n + 1 + two % (n - 1)) % n))]).length) none] 0), (13, .rop [i64 ((p1 : Nat) : Int), i64 ((p2 : Nat) : Int)] 0), (14, i64 0)]) (H' := []) ⟨⟨_, rfl, rfl⟩, ⟨_, rfl, rfl⟩, ⟨_, rfl, rfl⟩, ⟨_, rfl, rfl⟩, ⟨_, rfl, rfl⟩, ⟨_, rfl, rfl⟩, trivial⟩ trivial ?_
  refine W_seq rfl ?_
  refine W_reg rfl ?_
  refine Rv rfl rfl rfl (U_load2 rfl rfl rfl rfl) rfl rfl ?_
  refine Rv rfl rfl rfl (U_move rfl) rfl rfl ?_
  refine Rv rfl rfl rfl (U_move rfl) rfl rfl ?_
  refine Rv rfl rfl rfl (U_call rfl rfl (h35x) rfl) rfl rfl ?_
  refine Rv rfl rfl rfl (U_move rfl) rfl rfl ?_
  refine Rv rfl rfl rfl (U_extract rfl rfl) rfl rfl ?_
  refine Rv rfl rfl rfl (U_extract rfl rfl) rfl rfl ?_
  refine Ra rfl rfl rfl (U_alloc) rfl rfl rfl ?_
  refine Rn rfl rfl rfl (U_storeAll rfl rfl rfl rfl rfl rfl) rfl ?_
  refine Rv rfl rfl rfl (U_assign rfl) rfl rfl ?_
  refine Re rfl ?_
  refine thenQ_n ?_
  refine WfrN 2 rfl rfl (T' := [(4, .rop [i64 ((n : Nat) : Int), .ros (ks.flatMap lkN) ks.length c] 0), (9, i64 ((one % n : Nat) : Int)), (11, i64 (((one % n + 1 + three % (n - 1)) % n : Nat) : Int)), (12, .rop [i64 ((n : Nat) : Int), .ros ((ks ++ [((one % n), ((one % n + 1 + two % (n - 1)) % n))]).flatMap lkN) ((ks ++ [((one % n), ((one % n + 1 + two % (n - 1)) % n))]).length) none] 0), (13, .rop [i64 ((p1 : Nat) : Int), i64 ((p2 : Nat) : Int)] 0), (14, i64 0), (15, .rop [i64 ((q1 : Nat) : Int), i64 ((q2 : Nat) : Int)] 0), (16, i64 0)]) (H' := []) ⟨⟨_, rfl, rfl⟩, ⟨_, rfl, rfl⟩, ⟨_, rfl, rfl⟩, ⟨_, rfl, rfl⟩, ⟨_, rfl, rfl⟩, ⟨_, rfl, rfl⟩, ⟨_, rfl, rfl⟩, ⟨_, rfl, rfl⟩, trivial⟩ trivial ?_
  refine W_seq rfl ?_
  refine W_reg rfl ?_
  refine Rv rfl rfl rfl (U_load2 rfl rfl rfl rfl) rfl rfl ?_
  refine Rv rfl rfl rfl (U_call rfl rfl (h28) rfl) rfl rfl ?_
  refine Rv rfl rfl rfl (U_move rfl) rfl rfl ?_
  refine Rv rfl rfl rfl (U_extract rfl rfl) rfl rfl ?_
  refine Rv rfl rfl rfl (U_extract rfl rfl) rfl rfl ?_
  refine Rv rfl rfl rfl (U_assign rfl) rfl rfl ?_
  refine Rv rfl rfl rfl (U_assign rfl) rfl rfl ?_
  refine Re rfl ?_
  refine thenQ_n ?_
  refine W_seq rfl ?_
  refine W_reg rfl ?_
  refine Rv rfl rfl rfl (U_load2 rfl rfl rfl rfl) rfl rfl ?_
  refine Rv rfl rfl rfl (U_call rfl rfl (h28x) rfl) rfl rfl ?_
  refine Rv rfl rfl rfl (U_move rfl) rfl rfl ?_
  refine Rv rfl rfl rfl (U_extract rfl rfl) rfl rfl ?_
  refine Rv rfl rfl rfl (U_extract rfl rfl) rfl rfl ?_
  refine Rv rfl rfl rfl (U_assign rfl) rfl rfl ?_
  refine Rv rfl rfl rfl (U_assign rfl) rfl rfl ?_
  refine Re rfl ?_
  refine thenQ_n ?_
  refine W_seq rfl ?_
  refine W_reg rfl ?_
  refine Rv rfl rfl rfl (U_load2 rfl rfl rfl rfl) rfl rfl ?_
  refine Rv rfl rfl rfl (U_move rfl) rfl rfl ?_
  refine Rv rfl rfl rfl (U_move rfl) rfl rfl ?_
  refine Rv rfl rfl rfl (U_call rfl rfl (h33) rfl) rfl rfl ?_
  refine Rv rfl rfl rfl (U_move rfl) rfl rfl ?_
  refine Rv rfl rfl rfl (U_extract rfl rfl) rfl rfl ?_
  refine Rv rfl rfl rfl (U_extract rfl rfl) rfl rfl ?_
  refine Rv rfl rfl rfl (U_assign rfl) rfl rfl ?_
  refine Rv rfl rfl rfl (U_assign rfl) rfl rfl ?_
  refine Re rfl ?_
  refine thenQ_n ?_
  refine W_seq rfl ?_
  refine W_reg rfl ?_
  refine Rv rfl rfl rfl (U_load2 rfl rfl rfl rfl) rfl rfl ?_
  refine Rv rfl rfl rfl (U_move rfl) rfl rfl ?_
  refine Rv rfl rfl rfl (U_move rfl) rfl rfl ?_
  refine Rv rfl rfl rfl (U_call rfl rfl (h33x) rfl) rfl rfl ?_
  refine Rv rfl rfl rfl (U_move rfl) rfl rfl ?_
  refine Rv rfl rfl rfl (U_extract rfl rfl) rfl rfl ?_
  refine Rv rfl rfl rfl (U_extract rfl rfl) rfl rfl ?_
  refine Rv rfl rfl rfl (U_assign rfl) rfl rfl ?_
  refine Rv rfl rfl rfl (U_assign rfl) rfl rfl ?_
  refine Re rfl ?_
  refine thenQ_n ?_
  refine W_seq rfl ?_
  refine W_seq rfl ?_
  refine W_reg rfl ?_
  refine Rv rfl rfl rfl (U_move rfl) rfl rfl ?_
  refine Rv rfl rfl rfl (U_neq rfl rfl) rfl rfl ?_
  refine Rv rfl rfl rfl (U_move rfl) rfl rfl ?_
  refine Rv rfl rfl rfl (U_move rfl) rfl rfl ?_
  refine Rv rfl rfl rfl (U_neq rfl rfl) rfl rfl ?_
  refine Rv rfl rfl rfl (U_pick_f rfl rfl) rfl rfl ?_
  refine Rv rfl rfl rfl (U_move rfl) rfl rfl ?_
  refine Rv rfl rfl rfl (U_move rfl) rfl rfl ?_
  refine Rv rfl rfl rfl (U_neq rfl rfl) rfl rfl ?_
  refine Rv rfl rfl rfl (U_pick_f rfl rfl) rfl rfl ?_
  refine Rv rfl rfl rfl (U_move rfl) rfl rfl ?_
  refine Rv rfl rfl rfl (U_move rfl) rfl rfl ?_
  refine Rv rfl rfl rfl (U_neq rfl rfl) rfl rfl ?_
  refine Rv rfl rfl rfl (U_pick_f rfl rfl) rfl rfl ?_
  refine Rv rfl rfl rfl (U_move rfl) rfl rfl ?_
  refine Rv rfl rfl rfl (U_move rfl) rfl rfl ?_
  refine Rv rfl rfl rfl (U_neq rfl rfl) rfl rfl ?_
  refine Rv rfl rfl rfl (U_pick_f rfl rfl) rfl rfl ?_
  refine Rv rfl rfl rfl (U_move rfl) rfl rfl ?_
  refine Rv rfl rfl rfl (U_move rfl) rfl rfl ?_
  refine Rv rfl rfl rfl (U_neq rfl rfl) rfl rfl ?_
  refine Rv rfl rfl rfl (U_pick_f rfl rfl) rfl rfl ?_
  refine Rv rfl rfl rfl (U_move rfl) rfl rfl ?_
  refine Rv rfl rfl rfl (U_fieldAddrR rfl) rfl rfl ?_
  refine Rv rfl rfl rfl (U_load1 rfl rfl rfl) rfl rfl ?_
  refine Rv rfl rfl rfl (OpU.toB (U_lss rfl rfl) (decide_eq_false (by omega))) rfl rfl ?_
  refine Rv rfl rfl rfl (U_pick_f rfl rfl) rfl rfl ?_
  refine Rv rfl rfl rfl (U_move rfl) rfl rfl ?_
  refine Rv rfl rfl rfl (U_fieldAddrR rfl) rfl rfl ?_
  refine Rv rfl rfl rfl (U_load1 rfl rfl rfl) rfl rfl ?_
  refine Rv rfl rfl rfl (OpU.toB (U_gtr rfl rfl) (decide_eq_false (by omega))) rfl rfl ?_
  refine Rv rfl rfl rfl (U_pick_f rfl rfl) rfl rfl ?_
  refine Rv rfl rfl rfl (U_move rfl) rfl rfl ?_
  refine Rv rfl rfl rfl (U_fieldAddrR rfl) rfl rfl ?_
  refine Rv rfl rfl rfl (U_load1 rfl rfl rfl) rfl rfl ?_
  refine Rv rfl rfl rfl (OpU.toB (U_lss rfl rfl) (decide_eq_false (by omega))) rfl rfl ?_
  refine Rv rfl rfl rfl (U_pick_f rfl rfl) rfl rfl ?_
  refine Rv rfl rfl rfl (U_move rfl) rfl rfl ?_
  refine Rv rfl rfl rfl (U_fieldAddrR rfl) rfl rfl ?_
  refine Rv rfl rfl rfl (U_load1 rfl rfl rfl) rfl rfl ?_
  refine Rv rfl rfl rfl (OpU.toB (U_gtr rfl rfl) (decide_eq_false (by omega))) rfl rfl ?_
  refine Rv rfl rfl rfl (U_pick_f rfl rfl) rfl rfl ?_
  refine Rv rfl rfl rfl (U_move rfl) rfl rfl ?_
  refine Rv rfl rfl rfl (U_fieldAddrR rfl) rfl rfl ?_
  refine Rv rfl rfl rfl (U_load1 rfl rfl rfl) rfl rfl ?_
  refine Rv rfl rfl rfl (OpU.toB (U_lss rfl rfl) (decide_eq_false (by omega))) rfl rfl ?_
  refine Rv rfl rfl rfl (U_pick_f rfl rfl) rfl rfl ?_
  refine Rv rfl rfl rfl (U_move rfl) rfl rfl ?_
  refine Rv rfl rfl rfl (U_fieldAddrR rfl) rfl rfl ?_
  refine Rv rfl rfl rfl (U_load1 rfl rfl rfl) rfl rfl ?_
  refine Rv rfl rfl rfl (U_fieldAddrR rfl) rfl rfl ?_
  refine Rv rfl rfl rfl (U_load1 rfl rfl rfl) rfl rfl ?_
  refine Rv rfl rfl rfl (OpU.toB (U_gtr rfl rfl) (decide_eq_false (by omega))) rfl rfl ?_
  refine Rv rfl rfl rfl (U_pick_f rfl rfl) rfl rfl ?_
  refine Rv rfl rfl rfl (U_move rfl) rfl rfl ?_
  refine Rv rfl rfl rfl (U_fieldAddrR rfl) rfl rfl ?_
  refine Rv rfl rfl rfl (U_load1 rfl rfl rfl) rfl rfl ?_
  refine Rv rfl rfl rfl (OpU.toB (U_lss rfl rfl) (decide_eq_false (by omega))) rfl rfl ?_
  refine Rv rfl rfl rfl (U_pick_f rfl rfl) rfl rfl ?_
  refine Rv rfl rfl rfl (U_move rfl) rfl rfl ?_
  refine Rv rfl rfl rfl (U_fieldAddrR rfl) rfl rfl ?_
  refine Rv rfl rfl rfl (U_load1 rfl rfl rfl) rfl rfl ?_
  refine Rv rfl rfl rfl (U_fieldAddrR rfl) rfl rfl ?_
  refine Rv rfl rfl rfl (U_load1 rfl rfl rfl) rfl rfl ?_
  refine Rv rfl rfl rfl (OpU.toB (U_gtr rfl rfl) (decide_eq_false (by omega))) rfl rfl ?_
  refine Rv rfl rfl rfl (U_pick_f rfl rfl) rfl rfl ?_
  refine Re rfl ?_
  refine thenQ_n ?_
  refine Wcond rfl rfl (fun h => nomatch h) (fun _ => ?_)
  refine W_skip rfl ?_
  refine thenQ_n ?_
  refine W_seq rfl ?_
  refine Wjoin ⟨[(8, .bool true)], [], 0, []⟩ ?_ ?_
  · refine W_reg rfl ?_
    refine Rv rfl rfl rfl (U_fieldAddrR rfl) rfl rfl ?_
    refine Rv rfl rfl rfl (U_load1 rfl rfl rfl) rfl rfl ?_
    refine Rv rfl rfl rfl (U_fieldAddrR rfl) rfl rfl ?_
    refine Rv rfl rfl rfl (U_load1 rfl rfl rfl) rfl rfl ?_
    refine Rv rfl rfl rfl (U_mul rfl rfl (w64e (m := ((q1 * p2 : Nat) : Int)) (by omega) (by omega) (by omega))) rfl rfl ?_
    refine Rv rfl rfl rfl (U_fieldAddrR rfl) rfl rfl ?_
    refine Rv rfl rfl rfl (U_load1 rfl rfl rfl) rfl rfl ?_
    refine Rv rfl rfl rfl (U_fieldAddrR rfl) rfl rfl ?_
    refine Rv rfl rfl rfl (U_load1 rfl rfl rfl) rfl rfl ?_
    refine Rv rfl rfl rfl (U_mul rfl rfl (w64e (m := ((p1 * q2 : Nat) : Int)) (by omega) (by omega) (by omega))) rfl rfl ?_
    refine Rv rfl rfl rfl (OpU.toB (U_geq rfl rfl) (decide_eq_true (by omega))) rfl rfl ?_
    refine Rv rfl rfl rfl (U_move rfl) rfl rfl ?_
    refine Rv rfl rfl rfl (U_move rfl) rfl rfl ?_
    refine Rv rfl rfl rfl (U_move rfl) rfl rfl ?_
    refine Rv rfl rfl rfl (OpU.toB (U_leq rfl rfl) (decide_eq_true (by omega))) rfl rfl ?_
    refine Rv rfl rfl rfl (U_pick_t rfl rfl) rfl rfl ?_
    refine Rv rfl rfl rfl (U_move rfl) rfl rfl ?_
    refine Rv rfl rfl rfl (U_move rfl) rfl rfl ?_
    refine Rv rfl rfl rfl (OpU.toB (U_gtr rfl rfl) (decide_eq_true (by omega))) rfl rfl ?_
    refine Rv rfl rfl rfl (U_pick_t rfl rfl) rfl rfl ?_
    refine Rv rfl rfl rfl (U_move rfl) rfl rfl ?_
    refine Rv rfl rfl rfl (U_move rfl) rfl rfl ?_
    refine Rv rfl rfl rfl (U_neq rfl rfl) rfl rfl ?_
    refine Rv rfl rfl rfl (U_move rfl) rfl rfl ?_
    refine Rsplit (t := 209) rfl (fun hg1 => ?_) (fun hg1 => ?_)
    · rw [hg1]
      have hg1' : k1 ≠ 2 := of_decide_eq_true hg1
      refine Rs rfl rfl rfl rfl rfl ?_
      refine Rs rfl rfl rfl rfl rfl ?_
      refine Rv rfl rfl rfl (U_pick_t rfl rfl) rfl rfl ?_
      refine Rv rfl rfl rfl (U_pick_t rfl rfl) rfl rfl ?_
      refine Rv rfl rfl rfl (U_move rfl) rfl rfl ?_
      refine Rv rfl rfl rfl (U_move rfl) rfl rfl ?_
      refine Rv rfl rfl rfl (U_neq rfl rfl) rfl rfl ?_
      refine Rv rfl rfl rfl (U_move rfl) rfl rfl ?_
      refine Rsplit (t := 217) rfl (fun hg2 => ?_) (fun hg2 => ?_)
      · rw [hg2]
        have hg2' : k1 ≠ 0 := of_decide_eq_true hg2
        refine Rs rfl rfl rfl rfl rfl ?_
        refine Rs rfl rfl rfl rfl rfl ?_
        refine Rv rfl rfl rfl (U_pick_t rfl rfl) rfl rfl ?_
        refine Rv rfl rfl rfl (U_pick_t rfl rfl) rfl rfl ?_
        refine Rv rfl rfl rfl (U_move rfl) rfl rfl ?_
        refine Rv rfl rfl rfl (U_call rfl rfl (works_p) rfl) rfl rfl ?_
        refine Rv rfl rfl rfl (U_pick_t rfl rfl) rfl rfl ?_
        refine Rv rfl rfl rfl (U_assign rfl) rfl rfl ?_
        refine Re rfl ?_
        exact joinTo id ⟨eD rfl rfl, trivial⟩ trivial rfl rfl rfl rfl (fun _ _ => rfl)
      · rw [hg2]
        have hg2' : ¬ (k1 ≠ 0) := of_decide_eq_false hg2
        refine Rv rfl rfl rfl (U_move rfl) rfl rfl ?_
        refine Rv rfl rfl rfl (OpU.toB (U_eql rfl rfl) (decide_eq_true (by omega))) rfl rfl ?_
        refine Rv rfl rfl rfl (U_pick_f rfl rfl) rfl rfl ?_
        refine Rv rfl rfl rfl (U_pick_t rfl rfl) rfl rfl ?_
        refine Rv rfl rfl rfl (U_move rfl) rfl rfl ?_
        refine Rv rfl rfl rfl (U_call rfl rfl (works_p) rfl) rfl rfl ?_
        refine Rv rfl rfl rfl (U_pick_t rfl rfl) rfl rfl ?_
        refine Rv rfl rfl rfl (U_assign rfl) rfl rfl ?_
        refine Re rfl ?_
        exact joinTo id ⟨eD rfl rfl, trivial⟩ trivial rfl rfl rfl rfl (fun _ _ => rfl)
    · rw [hg1]
      have hg1' : ¬ (k1 ≠ 2) := of_decide_eq_false hg1
      refine Rv rfl rfl rfl (U_move rfl) rfl rfl ?_
      refine Rv rfl rfl rfl (OpU.toB (U_eql rfl rfl) (decide_eq_true (by omega))) rfl rfl ?_
      refine Rv rfl rfl rfl (U_pick_f rfl rfl) rfl rfl ?_
      refine Rv rfl rfl rfl (U_pick_t rfl rfl) rfl rfl ?_
      refine Rv rfl rfl rfl (U_move rfl) rfl rfl ?_
      refine Rv rfl rfl rfl (U_move rfl) rfl rfl ?_
      refine Rv rfl rfl rfl (U_neq rfl rfl) rfl rfl ?_
      refine Rv rfl rfl rfl (U_move rfl) rfl rfl ?_
      refine Rsplit (t := 217) rfl (fun hg3 => ?_) (fun hg3 => ?_)
      · rw [hg3]
        have hg3' : k1 ≠ 0 := of_decide_eq_true hg3
        refine Rs rfl rfl rfl rfl rfl ?_
        refine Rs rfl rfl rfl rfl rfl ?_
        refine Rv rfl rfl rfl (U_pick_t rfl rfl) rfl rfl ?_
        refine Rv rfl rfl rfl (U_pick_t rfl rfl) rfl rfl ?_
        refine Rv rfl rfl rfl (U_move rfl) rfl rfl ?_
        refine Rv rfl rfl rfl (U_call rfl rfl (works_p) rfl) rfl rfl ?_
        refine Rv rfl rfl rfl (U_pick_t rfl rfl) rfl rfl ?_
        refine Rv rfl rfl rfl (U_assign rfl) rfl rfl ?_
        refine Re rfl ?_
        exact joinTo id ⟨eD rfl rfl, trivial⟩ trivial rfl rfl rfl rfl (fun _ _ => rfl)
      · rw [hg3]
        have hg3' : ¬ (k1 ≠ 0) := of_decide_eq_false hg3
        refine Rv rfl rfl rfl (U_move rfl) rfl rfl ?_
        refine Rv rfl rfl rfl (OpU.toB (U_eql rfl rfl) (decide_eq_true (by omega))) rfl rfl ?_
        refine Rv rfl rfl rfl (U_pick_f rfl rfl) rfl rfl ?_
        refine Rv rfl rfl rfl (U_pick_t rfl rfl) rfl rfl ?_
        refine Rv rfl rfl rfl (U_move rfl) rfl rfl ?_
        refine Rv rfl rfl rfl (U_call rfl rfl (works_p) rfl) rfl rfl ?_
        refine Rv rfl rfl rfl (U_pick_t rfl rfl) rfl rfl ?_
        refine Rv rfl rfl rfl (U_assign rfl) rfl rfl ?_
        refine Re rfl ?_
        exact joinTo id ⟨eD rfl rfl, trivial⟩ trivial rfl rfl rfl rfl (fun _ _ => rfl)
  refine thenQ_n ?_
  refine W_ret rfl ?_
  exact retL (rlT rfl rl0) rfl rfl
theorem fr_mul {a b c d : Nat} (hb : 0 < b) (hd : 0 < d) (h : a * d ≤ c * b) : frN a b * frD c d ≤ frN c d * frD a b := by
  obtain ⟨a', ha⟩ := Nat.gcd_dvd_left a b
  obtain ⟨b', hb'⟩ := Nat.gcd_dvd_right a b
  obtain ⟨c', hc⟩ := Nat.gcd_dvd_left c d
  obtain ⟨d', hd'⟩ := Nat.gcd_dvd_right c d
  have g1 : 0 < Nat.gcd a b := Nat.gcd_pos_of_pos_right a hb
  have g2 : 0 < Nat.gcd c d := Nat.gcd_pos_of_pos_right c hd
  have e1 : frN a b = a' := Nat.div_eq_of_eq_mul_right g1 ha
  have e2 : frD a b = b' := Nat.div_eq_of_eq_mul_right g1 hb'
  have e3 : frN c d = c' := Nat.div_eq_of_eq_mul_right g2 hc
  have e4 : frD c d = d' := Nat.div_eq_of_eq_mul_right g2 hd'
  rw [e1, e2, e3, e4]
  have h2 : (Nat.gcd a b * Nat.gcd c d) * (a' * d') ≤ (Nat.gcd a b * Nat.gcd c d) * (c' * b') := by
    calc (Nat.gcd a b * Nat.gcd c d) * (a' * d') = (Nat.gcd a b * a') * (Nat.gcd c d * d') := by simp only [Nat.mul_assoc, Nat.mul_comm, Nat.mul_left_comm]
      _ = a * d := by rw [← ha, ← hd']
      _ ≤ c * b := h
      _ = (Nat.gcd c d * c') * (Nat.gcd a b * b') := by rw [← hc, ← hb']
      _ = (Nat.gcd a b * Nat.gcd c d) * (c' * b') := by simp only [Nat.mul_assoc, Nat.mul_comm, Nat.mul_left_comm]
  exact Nat.le_of_mul_le_mul_left h2 (Nat.mul_pos g1 g2)
theorem knd_more {n : Nat} {ks : List (Nat × Nat)} (hv : VB n ks) {x y z w : Nat} (hv2 : VB n (ks ++ [(x, y)])) (ha : Acy n (ks ++ [(x, y)])) : (kndQ (faQ n ks) z w ≠ 2 ∨ kndQ (faQ n (ks ++ [(x, y)])) z w = 2) ∧ (kndQ (faQ n ks) z w ≠ 0 ∨ kndQ (faQ n (ks ++ [(x, y)])) z w = 0) := by
  have hm : ∀ a b, bt ((faQ n ks).g a) b = true → bt ((faQ n (ks ++ [(x, y)])).g a) b = true := fun a b h => (faQ_bt hv2).2 (pth_sub (fun p hp => List.mem_append_left _ hp) ((faQ_bt hv).1 h))
  have hx : ¬ (bt ((faQ n (ks ++ [(x, y)])).g z) w = true ∧ bt ((faQ n (ks ++ [(x, y)])).g w) z = true) := fun h => by
    rw [faQ_bt hv2, faQ_bt hv2] at h
    exact acy_pth hv2 ha (h.1.trans h.2)
  constructor
  · by_cases h : bt ((faQ n ks).g z) w = true
    · exact .inr (if_pos (hm _ _ h))
    · refine .inl ?_
      unfold kndQ; rw [if_neg h]; split <;> omega
  · by_cases h : bt ((faQ n ks).g z) w = true
    · refine .inl ?_
      unfold kndQ; rw [if_pos h]; omega
    · by_cases h2 : bt ((faQ n ks).g w) z = true
      · refine .inr ?_
        have h3 := hm _ _ h2
        unfold kndQ; rw [if_neg (fun h4 => hx ⟨h4, h3⟩), if_pos h3]
      · refine .inl ?_
        unfold kndQ; rw [if_neg h, if_neg h2]; omega
theorem fr_ok {n : Nat} {ks : List (Nat × Nat)} (hv : VB n ks) (hl : ks.length ≤ 40) (hc : 0 < cntQ n ks) {x z : Nat} (hx : x < n) (hz : z < n) (hxz : x ≠ z) : 1 ≤ frD (cntQ n (ks ++ [(x, z)])) (cntQ n ks) ∧ frD (cntQ n (ks ++ [(x, z)])) (cntQ n ks) ≤ 3628800 ∧ frN (cntQ n (ks ++ [(x, z)])) (cntQ n ks) ≤ frD (cntQ n (ks ++ [(x, z)])) (cntQ n ks) := by
  have h1 := vb_snoc hv (by omega) hx hz hxz
  have h2 := vb_snoc hv (by omega) hz hx (Ne.symm hxz)
  obtain ⟨f1, f2, f3, f4, _⟩ := fr_facts (cnt_split hv h1 h2) hc
  have := cntQ_le hv
  omega
theorem rankHelped_p (b : Bk) (c : Option Nat) (one two three : Nat) (hu1 : one < 256) (hu2 : two < 256) (hu3 : three < 256) : Pure Try.prog 12 [bookA b c, .int .u8 (one : Nat), .int .u8 (two : Nat), .int .u8 (three : Nat)] (.bool true) := by
  cases hf : fneB b with
  | false => exact helped_a b c (ordered_F b c hf) one two three hu1 hu2 hu3
  | true =>
    have h1 := fine_T b c hf
    obtain ⟨n, ks, rfl, hv, h40⟩ := chkB_ok (fne_ok hf)
    rcases acy_or n ks with ha | ⟨g, hg⟩
    · rw [bk_eq] at h1 ⊢
      have hO := ordered_A n ks c hv h1 ha
      by_cases hn2 : n < 3
      · exact helped_b n ks c hv h40 hO hn2 one two three hu1 hu2 hu3
      · by_cases h39 : 40 ≤ ks.length
        · exact helped_c n ks c hv h40 hO hn2 h39 one two three hu1 hu2 hu3
        · by_cases hyz : ((one % n + 1 + two % (n - 1)) % n) = ((one % n + 1 + three % (n - 1)) % n)
          · exact helped_d n ks c hv h40 hO hn2 h39 one two three hu1 hu2 hu3 hyz
          · have hx : one % n < n := Nat.mod_lt _ (by omega)
            have hy : ((one % n + 1 + two % (n - 1)) % n) < n := Nat.mod_lt _ (by omega)
            have hz : ((one % n + 1 + three % (n - 1)) % n) < n := Nat.mod_lt _ (by omega)
            have hxy : one % n ≠ ((one % n + 1 + two % (n - 1)) % n) := xy_ne hx (Nat.mod_lt _ (by omega))
            have hxz : one % n ≠ ((one % n + 1 + three % (n - 1)) % n) := xy_ne hx (Nat.mod_lt _ (by omega))
            have hv2 := vb_snoc hv (by omega) hx hy hxy
            have hv2' := vb_snoc hv (by omega) hy hx (Ne.symm hxy)
            have hv3 := vb_snoc hv (by omega) hx hz hxz
            have h41 : (ks ++ [(one % n, ((one % n + 1 + two % (n - 1)) % n))]).length ≤ 40 := by simp; omega
            have hv4 := vb_snoc hv2 (by omega) hx hz hxz
            have hb : chkB ⟨n, (ks ++ [(one % n, ((one % n + 1 + two % (n - 1)) % n))]).map cP⟩ = 0 := chkB_vb hv2 h41
            have hfn : fneB ⟨n, (ks ++ [(one % n, ((one % n + 1 + two % (n - 1)) % n))]).map cP⟩ = true := by
              unfold fneB grt
              rw [hb, decide_eq_false (by simp; omega)]; rfl
            have h2 := fine_T ⟨n, (ks ++ [(one % n, ((one % n + 1 + two % (n - 1)) % n))]).map cP⟩ none hfn
            rw [bk_eq] at h2
            rcases acy_or n (ks ++ [(one % n, ((one % n + 1 + two % (n - 1)) % n))]) with ha2 | ⟨g, hg⟩
            · have hM := ordered_A n _ none hv2 h2 ha2
              have hc := cnt_acy hv ha
              have hc2 := cnt_acy hv2 ha2
              have hk := knd_more (z := ((one % n + 1 + three % (n - 1)) % n)) (w := one % n) hv hv2 ha2
              have hs := cnt_split hv hv2 hv2'
              refine helped_f n ks c hv h40 hO hn2 h39 one two three hu1 hu2 hu3 hyz _ _ _ _ _ _ _ _ ?_ ?_ ?_ ?_ hk.1 hk.2 hM (chanceQ_p n ks c hv h40 ha _ _ hx hz hxz) (chanceQ_p n _ none hv2 h41 ha2 _ _ hx hz hxz) (cntA_p n ks c hv h40 ha) (cntA_p n _ none hv2 h41 ha2) (kind_g n ks c hv h40 ha _ _ hz hx (Ne.symm hxz)) (kind_g n _ none hv2 h41 ha2 _ _ hz hx (Ne.symm hxz))
              · exact fr_ok hv h40 hc hx hz hxz
              · exact fr_ok hv2 h41 hc2 hx hz hxz
              · refine fr_mul hc hc2 ?_
                have := xyz hv hv2 hv3 hv4
                rw [Nat.mul_comm] at this; exact this
              · exact ⟨hc2, by omega⟩
            · exact helped_e n ks c hv h40 hO hn2 h39 one two three hu1 hu2 hu3 hyz (ordered_Y n _ none hv2 h2 g hg)
    · refine helped_a _ c ?_ one two three hu1 hu2 hu3
      rw [bk_eq] at h1 ⊢
      exact ordered_Y n ks c hv h1 g hg
end Go.Proofs.Ythmibifghihdaaa
end
