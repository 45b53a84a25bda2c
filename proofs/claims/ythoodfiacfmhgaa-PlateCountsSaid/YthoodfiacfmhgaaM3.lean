import Derived.Test.YthoodfiacfmhgaaM2
set_option linter.all false
section
/- Abstract states, twenty-first part: calls that read blocks of the caller's, and leave them. -/
namespace Go.AE
open Go.RowKit
section
variable {k : Nat} {σ : Nat → Nat}
mutual
theorem ren_below (h : ∀ b, b < k → σ b = b) : ∀ (v : AV), v.belb k = true → v.ren σ = v
  | .bool _, _ | .int _ _, _ | .str _, _ | .nilp, _ | .nils, _ | .nilm, _ | .nilf, _ | .nili, _ | .rop _ _, _ | .ros _ _ _, _ | .rom _, _ => rfl
  | .ptr b _, d | .slice b _ _ _, d | .sliceo b _ _ _, d | .out b _ _, d | .mapl b, d | .yld b, d => by simp only [AV.ren, h b (ltOf d)]
  | .agg cs, d => by
    have d' : belbL k cs = true := by simpa only [AV.belb] using d
    simp only [AV.ren, renL_below h cs d']
  | .tup cs, d => by
    have d' : belbL k cs = true := by simpa only [AV.belb] using d
    simp only [AV.ren, renL_below h cs d']
  | .fn f a b, d => by
    have d' : belbL k a = true ∧ belbL k b = true := by simpa only [AV.belb, Bool.and_eq_true] using d
    simp only [AV.ren, renL_below h a d'.1, renL_below h b d'.2]
theorem renL_below (h : ∀ b, b < k → σ b = b) : ∀ (l : List AV), belbL k l = true → renL σ l = l
  | [], _ => rfl
  | v :: l, d => by
    have d' : v.belb k = true ∧ belbL k l = true := by simpa only [belbL, Bool.and_eq_true] using d
    simp only [renL, ren_below h v d'.1, renL_below h l d'.2]
end
theorem renE_below (h : ∀ b, b < k → σ b = b) : ∀ (l : List (AV × AV × Nat)), belbE k l = true → renE σ l = l
  | [], _ => rfl
  | (a, v, n) :: l, d => by
    have d' : (a.belb k = true ∧ v.belb k = true) ∧ belbE k l = true := by simpa only [belbE, Bool.and_eq_true] using d
    simp only [renE, ren_below h a d'.1.1, ren_below h v d'.1.2, renE_below h l d'.2]
theorem renT_below (h : ∀ b, b < k → σ b = b) : ∀ (l : AT), belbT k l = true → renT σ l = l
  | [], _ => rfl
  | (i, v) :: l, d => by
    have d' : v.belb k = true ∧ belbT k l = true := by simpa only [belbT, Bool.and_eq_true] using d
    simp only [renT, ren_below h v d'.1, renT_below h l d'.2]
theorem renB_below (h : ∀ b, b < k → σ b = b) : ∀ (q : ABlk), q.belb k = true → q.ren σ = q
  | .cells cs _, d => by simp only [ABlk.ren, renL_below h cs d]
  | .map es _, d => by simp only [ABlk.ren, renE_below h es d]
  | .iter v _ _ _, d => by
    have d' : v.belb k = true := d
    simp only [ABlk.ren, ren_below h v d']
  | .loop _ _ T _ _ _ _ d0, d => by
    have d' : d0.blt k = true ∧ belbT k T = true := by simpa only [ABlk.belb, Bool.and_eq_true] using d
    simp only [ABlk.ren, renT_below h T d'.2, h d0 (ltOf d'.1)]
  | .defd _, _ => rfl
end
def allSome : AH → Bool
  | [] => true
  | (_, some _) :: H => allSome H
  | (_, none) :: _ => false
theorem renH_below {k : Nat} {σ : Nat → Nat} (h : ∀ b, b < k → σ b = b) : ∀ (H : AH), belbH k H = true → allSome H = true → renH σ H = H
  | [], _, _ => rfl
  | (b, some q) :: H, d, e => by
    have d' : (b.blt k = true ∧ q.belb k = true) ∧ belbH k H = true := by simpa only [belbH, Bool.and_eq_true] using d
    simp only [renH, h b (ltOf d'.1.1), Option.map_some, renB_below h q d'.1.2, renH_below h H d'.2 e]
  | (b, none) :: H, _, e => by cases e
section
variable {C : Ctx} {T : AT} {H : AH} {nx : Nat} {d : Option Tmp} {ty : TypeId} {pos : String} {after : Array Edge} {g : Option (Nat × Bool)}
theorem subH_ren : ∀ {H0 H : AH}, subH H0 H → allSome H0 = true → renSubH id H0 H
  | [], _, _, _ => trivial
  | (i, some v) :: l, T, ⟨h1, h2⟩, e => ⟨by rw [ren_id_B]; exact h1, subH_ren h2 e⟩
  | (i, none) :: l, T, _, e => by cases e
/-- A call that leaves the first blocks as they are. -/
theorem U_callRO {x : Operand} {args : Array Operand} {ts : Array TypeId} {f : FuncId} {fi ca vs : List AV} {H0 : AH} {k : Nat} {res : AV} [hf : FnOk C.P f] (hx : ev T x = some (.fn f fi ca)) (hv : evL T args.toList = some vs) (hP : MutP C.P f (fi ++ vs ++ ca) H0 k res H0 k)
    (hba : belbL k (fi ++ vs ++ ca) = true) (hH : subH H0 H) (hs : allSome H0 = true) (hbH : belbH k H0 = true) (hall : allLive k H0 = true) (hlt : k.ble nx = true) (hr : res.belb k = true) :
    OpU C ⟨d, .call ⟨.value x, args, ts⟩, ty, pos, after, g⟩ T H nx res H0 nx := by
  have hk := Nat.le_of_ble_eq_true hlt
  have hσ : ∀ b, b < k → sigM id k nx b = b := fun b hb => sigM_lt hb
  have hU := U_callM (C := C) (T := T) (H := H) (nx := nx) (d := d) (ty := ty) (pos := pos) (after := after) (g := g) (ts := ts) id hx hv hP (ren_id_L _).symm hba (subH_ren hH hs) hbH (allLive_of hall) (fun _ _ _ _ e => e) (fun b hb => Nat.lt_of_lt_of_le hb hk)
  rw [ren_below hσ res hr, renH_below hσ H0 hbH hs, Nat.sub_self, Nat.add_zero] at hU
  intro ρ Φ a w h1 h2 h3 K Q kk
  refine hU ρ Φ a w h1 h2 h3 K Q fun ρ' Φ' y w' hp hy => kk ρ' Φ' y w' ?_ hy
  have hkeys : ∀ b, b ∈ (H0 ++ deadH (sigM id k nx) H0).map (·.1) → b ∈ H0.map (·.1) := by
    intro b hb
    rw [List.map_append, keys_deadH] at hb
    rcases List.mem_append.1 hb with hb | hb
    · exact hb
    · obtain ⟨c, hc, rfl⟩ := List.mem_map.1 hb
      have : c < k := by
        have : ∀ (H0 : AH), belbH k H0 = true → allSome H0 = true → ∀ c ∈ H0.map (·.1), c < k := by
          intro H0
          induction H0 with
          | nil => intro _ _ c hc; simp at hc
          | cons q H0 ih =>
            obtain ⟨b, o⟩ := q
            intro h1 h2 c hc
            cases o with
            | none => cases h2
            | some q =>
              have d' : (b.blt k = true ∧ q.belb k = true) ∧ belbH k H0 = true := by simpa only [belbH, Bool.and_eq_true] using h1
              simp only [List.map_cons, List.mem_cons] at hc
              rcases hc with rfl | hc
              · exact ltOf d'.1.1
              · exact ih d'.2 h2 c hc
        exact this H0 hbH hs c hc
      rw [hσ c this]; exact hc
  refine (Post.less (hp.more hkeys) ?_)
  intro b q hb
  rw [List.append_assoc]
  rw [gt_app] at hb ⊢
  by_cases e : b ∈ keysOf H0
  · rw [if_pos e] at hb ⊢; exact hb
  · rw [if_neg e] at hb ⊢
    rcases gt_deadH (σ := sigM id k nx) H H0 b with e1 | ⟨e1, _⟩
    · exfalso
      have e2 : b ∉ keysOf (deadH (sigM id k nx) H0) := fun hh => e (hkeys b (by rw [List.map_append]; exact List.mem_append_right _ hh))
      rw [gt_app, if_neg e2, hb] at e1; cases e1
    · rw [e1]; exact hb
end
end Go.AE
end

section
/- Abstract states, twenty-second part: beginnings of slices. -/
namespace Go.AE
open Go.RowKit
section ops
variable {C : Ctx} {T : AT} {H : AH} {nx : Nat} {d : Option Tmp} {ty : TypeId} {pos : String} {after : Array Edge} {g : Option (Nat × Bool)}
/-- The beginning of an immutable slice. -/
theorem U_sliceTo {t e z n h : Nat} {c : Option Nat} {x hi : Operand} {cs : List AV} [hT : TySl C.P t e z] (hx : ev T x = some (.ros cs n c)) (hhi : bnd T 0 (some hi) = some (h : Int)) (h2 : h ≤ n) :
    OpU C ⟨d, .slice t x none (some hi) none, ty, pos, after, g⟩ T H nx (.ros cs h none) [] nx :=
  OpU.of_value (by intro c; simp) fun ρ Φ a w h3 _ => by
    have hp := ev_con h3 hx
    simp only [Con] at hp
    rcases hp with ⟨e1, ⟨p, e2⟩, e3⟩ | ⟨r, base, xs, k, e1, e2, e3, e4, e5, e6, e7⟩
    · have hl : h = 0 := by omega
      subst hl; subst e1
      have := run_sliceAt (P := C.P) (w := w) (t := t) (ad := p) (n := 0) (k := 0) (l := 0) (h := 0) (m := 0) (lo := none) rfl (bnd_con h3 hhi) (mx := none) (hi := some (a.eval hi)) rfl (Nat.le_refl _) (Nat.le_refl _) (Nat.le_refl _)
      refine ⟨.slice p 0 0, by simp only [execOp, e2, Sem.run_bind, Option.map_none, Option.map_some, this, Result.andThen_ok, Sem.run_pure]; simp only [if_true], ?_⟩
      simp only [Con]
      exact .inl ⟨trivial, ⟨_, rfl⟩, fun m hm => by cases hm⟩
    · have := run_sliceAt (P := C.P) (w := w) (t := t) (ad := some ⟨r, base, none⟩) (n := n) (k := k) (l := 0) (h := h) (m := k) (lo := none) rfl (bnd_con h3 hhi) (mx := none) (hi := some (a.eval hi)) rfl (Nat.zero_le _) (by omega) (Nat.le_refl _)
      refine ⟨.slice (some ⟨r, base, none⟩) h k, ?_, ?_⟩
      · simp only [execOp, e2, Sem.run_bind, Option.map_none, Option.map_some, this, Result.andThen_ok, Sem.run_pure]
        simp [add_at]
      · simp only [Con]
        exact .inr ⟨r, base, xs, k, e1, rfl, by omega, fun m hm => (by cases hm), e5, e6, e7⟩
end ops
end Go.AE
end

section
/- Abstract states, twenty-third part: new memory that is turned no more at once, calls that read blocks of one's own, lists that grow, and one step from state to state. -/
namespace Go.AE
open Go.RowKit

/-! ### Values without places -/
mutual
def AV.plain : AV → Bool
  | .bool _ | .int _ _ | .str _ | .nilp | .nils | .nilm | .nilf | .nili => true
  | .agg cs | .tup cs => plainL cs
  | _ => false
def plainL : List AV → Bool
  | [] => true
  | v :: vs => v.plain && plainL vs
end
mutual
theorem Con.plain {ρ ρ' : Env} {Φ Φ' : Fz} {w w' : World} : ∀ (v : AV) {x : Value}, v.plain = true → Con ρ Φ w v x → Con ρ' Φ' w' v x
  | .bool _, _, _, h | .int _ _, _, _, h | .str _, _, _, h | .nilp, _, _, h | .nils, _, _, h | .nilm, _, _, h | .nilf, _, _, h | .nili, _, _, h => by simpa only [Con] using h
  | .ptr _ _, _, d, _ | .slice _ _ _ _, _, d, _ | .sliceo _ _ _ _, _, d, _ | .out _ _ _, _, d, _ | .mapl _, _, d, _ | .yld _, _, d, _ | .rop _ _, _, d, _ | .ros _ _ _, _, d, _ | .rom _, _, d, _ | .fn _ _ _, _, d, _ => by simp [AV.plain] at d
  | .agg cs, _, d, h => by
    have d' : plainL cs = true := by simpa [AV.plain] using d
    simp only [Con] at h ⊢; obtain ⟨xs, h1, h2⟩ := h; exact ⟨xs, ConL.plain cs d' h1, h2⟩
  | .tup cs, _, d, h => by
    have d' : plainL cs = true := by simpa [AV.plain] using d
    simp only [Con] at h ⊢; obtain ⟨xs, h1, h2⟩ := h; exact ⟨xs, ConL.plain cs d' h1, h2⟩
theorem ConL.plain {ρ ρ' : Env} {Φ Φ' : Fz} {w w' : World} : ∀ (vs : List AV) {xs : List Value}, plainL vs = true → ConL ρ Φ w vs xs → ConL ρ' Φ' w' vs xs
  | [], _, _, h => by simpa only [ConL] using h
  | v :: vs, _, d, h => by
    have d' : v.plain = true ∧ plainL vs = true := by simpa [plainL] using d
    obtain ⟨y, ys, rfl, h1, h2⟩ := conL_inv h; exact conL_cons (Con.plain v d'.1 h1) (ConL.plain vs d'.2 h2)
end

section ops
variable {C : Ctx} {T : AT} {H : AH} {nx : Nat} {d : Option Tmp} {ty : TypeId} {pos : String} {after : Array Edge} {g : Option (Nat × Bool)}

/-! ### New memory that is turned no more -/
theorem new_fz {Wr : Nat → Prop} {w0 : World} {ρ : Env} {Φ : Fz} {w : World} {G : Nat → Option ABlk} (hm : Mem Wr w0 ρ Φ G w) (nx : Nat) (o : Obj) : Post Wr w0 ρ Φ w nx nx [] G ρ (fun r => Φ r ∨ r = w.heap.size) (w.alloc o) :=
  Post.later hm nx ((Below.refl _ _).alloc (Nat.le_refl _) o) (fun _ h => .inl h) (fun r h => h.imp id fun e => by omega) fun r h => by
    rw [World.size_alloc]
    rcases h with h | h
    · have := hm.frz r h; omega
    · omega
theorem at_new {w : World} {xs : List Value} {t : TypeId} : At (w.alloc (.cells xs.toArray t)) w.heap.size 0 xs := by
  have h := heap_alloc_new w (.cells xs.toArray t)
  exact at_of_cells (pre := []) (rest := []) (fz := (0, 0)) (by simpa using h)
theorem U_boxF {t : TypeId} {x : Operand} {v : AV} {cs : List AV} (hx : ev T x = some v) (hc : v.cellsA = cs) (hd : dataL cs) : OpU C ⟨d, .box t x, ty, pos, after, g⟩ T H nx (.rop cs 0) [] nx :=
  OpU.of_run (by intro c; simp) fun ρ Φ a w _ h2 h3 => by
    have hcs := hc ▸ con_cells (ev_con h2 hx)
    have hlt : ∀ r, Φ r → (w.alloc (.cells (a.eval x).cells t)).heap[r]? = w.heap[r]? := fun r hr => Below.heap_alloc w _ r (h3.frz r hr)
    refine ⟨_, _, .pointer (some ⟨w.heap.size, 0 + 0, none⟩), w.alloc (.cells (a.eval x).cells t), .inl ?_, new_fz h3 nx _, ?_⟩
    · simp [execOp, Instr.box, newVar, newRow]
    · simp only [Con]
      exact ⟨w.heap.size, 0, (a.eval x).cells.toList, .inr rfl, rfl, ConL.mono ρ.le_refl (fun _ h => .inl h) hlt _ hcs, at_new (xs := (a.eval x).cells.toList), hd⟩
theorem U_buildSliceF {t : TypeId} {n e k : Nat} {ps : Array (Nat × Operand)} {vs : List (Nat × AV)} {z cs : List AV} [hT : TySl C.P t e k] [hz : TyZero C.P e z] (hk : z.length = k) (hlim : n * k ≤ 2 ^ 24) (hv : evP T ps.toList = some vs) (hf : fillA (fun i => some (i * k, k)) (List.replicate n z).flatten vs = some cs) (hd : dataL cs) :
    OpU C ⟨d, .buildSlice t n ps, ty, pos, after, g⟩ T H nx (.ros cs n (some n)) [] nx :=
  OpU.of_run (by intro c; simp) fun ρ Φ a w h1 h2 h3 => by
    obtain ⟨zv, hz1, hz2⟩ := hz.zero
    have hzc := cvSL_con (ρ := ρ) (Φ := Φ) (w := w) hz2
    have hzl := conL_len hzc
    have hzs : zv.cells.size = k := by rw [← hk, ← hzl]; simp
    have hzz : ∃ Z : Array Value, ((n * k = 0 ∧ Z = #[]) ∨ (n * k ≠ 0 ∧ Z = zv.cells)) ∧ ((Array.range (n * k)).map (Z[· % Z.size]!)).toList = (List.replicate n zv.cells.toList).flatten := by
      by_cases h0 : n * k = 0
      · refine ⟨#[], .inl ⟨h0, rfl⟩, ?_⟩
        rw [h0]
        have : (List.replicate n zv.cells.toList).flatten.length = 0 := by simp [hzs, h0]
        rw [List.length_eq_zero_iff.1 this]; simp
      · refine ⟨zv.cells, .inr ⟨h0, rfl⟩, ?_⟩
        rw [← hzs]; exact zeros_eq zv.cells n
    obtain ⟨Z, hZ1, hZ2⟩ := hzz
    have hc0 : ConL ρ Φ w (List.replicate n z).flatten ((Array.range (n * k)).map (Z[· % Z.size]!)).toList := by rw [hZ2]; exact conL_flat hzc n
    obtain ⟨ys, e1, e2⟩ := fill_con (evP_con h2 hv) hc0 hf
    have hlt : ∀ r, Φ r → (w.alloc (.cells ys e)).heap[r]? = w.heap[r]? := fun r hr => Below.heap_alloc w _ r (h3.frz r hr)
    refine ⟨_, _, .slice (some ⟨w.heap.size, 0, none⟩) n n, w.alloc (.cells ys e), .inl ?_, new_fz h3 nx _, ?_⟩
    · have e1' : Instr.fill (fun i => some (i * k, k)) ((Array.range (n * k)).map (Z[· % Z.size]!)) (ps.map fun (i, x) => (i, a.eval x)).toList = some ys := by rw [Array.toList_map]; exact e1
      rcases hZ1 with ⟨h0, rfl⟩ | ⟨h0, rfl⟩
      · simp only [execOp, Instr.buildSlice, Sem.run_bind, run_underlying hT.un, Result.andThen_ok, hT.size, show ¬ n * k > 2 ^ 24 by omega, if_false, if_pos h0, e1', newRow, run_newObj_alloc, Sem.run_pure]
      · simp only [execOp, Instr.buildSlice, Sem.run_bind, run_underlying hT.un, Result.andThen_ok, hT.size, show ¬ n * k > 2 ^ 24 by omega, if_false, if_neg h0, hz1, e1', newRow, run_newObj_alloc, Sem.run_pure]
    · simp only [Con]
      exact .inr ⟨w.heap.size, 0, ys.toList, n, .inr rfl, rfl, Nat.le_refl _, fun m hm => (by cases hm; rfl), ConL.mono ρ.le_refl (fun _ h => .inl h) hlt _ e2, at_new (xs := ys.toList), hd⟩

/-! ### Calls that read blocks of one's own -/
/-- The state, if some blocks were turned no more. -/
def Frz (C : Ctx) (T : AT) (H : AH) (T' : AT) (H' : AH) : Prop :=
  ∀ ρ Φ (tmps : Array Value) w, TmpsAt ρ Φ w T C.nt tmps → Mem C.Wr C.w0 ρ Φ (gt H) w → ∃ Φ', Fz.le Φ Φ' ∧ TmpsAt ρ Φ' w T' C.nt tmps ∧ Mem C.Wr C.w0 ρ Φ' (gt H') w ∧ (∀ r, Φ' r → Φ r ∨ C.w0.heap.size ≤ r ∨ C.Wr r) ∧ Dk Φ w Φ' w
theorem Frz.refl : Frz C T H T H := fun _ Φ _ _ h k => ⟨Φ, Fz.le_refl _, h, k, fun _ h => .inl h, Dk.refl _ _⟩
theorem Frz.trans {T' T'' : AT} {H' H'' : AH} (h : Frz C T H T' H') (k : Frz C T' H' T'' H'') : Frz C T H T'' H'' := fun ρ Φ tmps w h1 h2 =>
  let ⟨_, e1, e2, e3, e4, e5⟩ := h ρ Φ tmps w h1 h2; let ⟨Φ2, f1, f2, f3, f4, f5⟩ := k ρ _ tmps w e2 e3; ⟨Φ2, Fz.le_trans e1 f1, f2, f3, fun r hr => (f4 r hr).elim (e4 r) .inr, e5.trans f5⟩
theorem Frz.fr (b : Nat) {cs : List AV} {t : TypeId} (hg : gt H b = some (.cells cs t)) (hd : dataL cs) : Frz C T H (frT b cs T) ((b, none) :: frH b cs H) := fun ρ Φ tmps w htm0 hmem => by
  obtain ⟨x, o, h1, h2, pre, xs, rest, h3, h4, h5, h6⟩ := hmem.at_ b _ hg
  have hm := hmem.freeze h1 (by rw [hg]; simp)
  have hle : Fz.le Φ (fun r => Φ r ∨ r = x.1) := fun _ hr => .inl hr
  have hxs := h3.mono ρ.le_refl hle (fun _ _ => rfl)
  have hat : At w x.1 x.2.1 xs := h4 ▸ at_of_cells (h6 ▸ h2)
  have htm := (htm0.mono ρ.le_refl hle (fun _ _ => rfl)).fr h1 (.inr rfl) hxs hat hd
  refine ⟨_, hle, htm, ?_, fun r hr => hr.imp id fun (e : r = x.1) => by rw [e]; exact (hmem.own b x (by rw [hg]; simp) h1).symm, hmem.dkFreeze hg h1⟩
  have hn : ∀ c, gt ((b, none) :: frH b cs H) c ≠ none → upG (gt H) b none c ≠ none := fun c hc => by
    rw [gt_upG] at hc; unfold upG at hc ⊢
    split at hc
    · exact absurd rfl hc
    · rename_i e; rw [if_neg e]; rw [frH_gt] at hc; intro e2; rw [e2] at hc; exact hc rfl
  refine ⟨fun c k hc => ?_, fun c c' y y' e1 e2 => hm.inj c c' y y' (hn c e1) (hn c' e2), fun c y e1 => hm.free c y (hn c e1), fun c y e1 => hm.own c y (hn c e1), hm.frz, hm.keep⟩
  rw [gt_upG] at hc; unfold upG at hc
  split at hc
  · cases hc
  · rename_i e
    rw [frH_gt] at hc
    cases e2 : gt H c with
    | none => rw [e2] at hc; cases hc
    | some k' =>
      rw [e2] at hc; cases hc
      obtain ⟨y, ob, e3, e4, e5⟩ := hm.at_ c k' (by unfold upG; rw [if_neg e]; exact e2)
      exact ⟨y, ob, e3, e4, e5.fr h1 (.inr rfl) hxs hat hd⟩
/-- A call of a function of data that is handed blocks of one's own, to read. -/
theorem U_callB {x : Operand} {args : Array Operand} {ts : Array TypeId} {f : FuncId} {fi ca vs : List AV} {res : AV} {T' : AT} {H' : AH} [hf : FnOk C.P f] (hz : Frz C T H T' H') (hx : ev T' x = some (.fn f fi ca)) (hv : evL T' args.toList = some vs) (hP : Pure C.P f (fi ++ vs ++ ca) res) (hd : dataL (fi ++ vs ++ ca)) (hr : res.plain = true) :
    OpU C ⟨d, .call ⟨.value x, args, ts⟩, ty, pos, after, g⟩ T H nx res [] nx := fun ρ Φ a w h1 h2 h3 K Q k => by
  obtain ⟨Φ2, q1, q2, q3, _⟩ := hz ρ Φ a.tmps w h2 h3
  have hc := ev_con q2 hx
  simp only [Con] at hc
  obtain ⟨xs, ys, e1, e2, e3⟩ := hc
  have e4 := evL_con q2 hv
  have hargs : ConL ρ Φ2 w (fi ++ vs ++ ca) (xs ++ args.toList.map a.eval ++ ys) := conL_append (conL_append e1 e4) e2
  have hcall := hP Φ2 w _ q3.frz (ConL.data _ hd hargs)
  have hrun : (execOp a.eval ⟨d, .call ⟨.value x, args, ts⟩, ty, pos, after, g⟩).run C.P w = .ok (.enter f (xs ++ args.toList.map a.eval ++ ys).toArray) w := by
    simp only [execOp, resolve, e3, Deferred.ofValue, Sem.run_bind, Sem.run_pure, Result.andThen_ok, invoke]
    rw [hf.run]
    simp [← Array.toList_map]
  refine ⟨fun _ _ => trivial, ?_⟩
  rw [Oper.semAt_eq _ _ _ (by intro c; simp), hrun]
  refine ⟨fun _ => by simp_all [Ctx.F, Fence.wide], (callsIn_of 0 hcall).mono ?_⟩
  rintro e w' ⟨y, Φ', rfl, h4, h5, h6, h7, h8⟩
  exact k ρ Φ y w' (Post.later h3 nx h5 Φ.le_refl (fun _ h => .inl h) fun r hr => Nat.lt_of_lt_of_le (h3.frz r hr) h5.size) (Con.plain _ hr h4)

/-! ### Lists that grow -/
theorem ev_out0 {x : Operand} {b z : Nat} (h : ev T x = some (.out b 0 z)) {ρ : Env} {Φ : Fz} {w : World} {nt : Nat} {a : Act} (k : TmpsAt ρ Φ w T nt a.tmps) : Con ρ Φ w .nils (a.eval x) := by
  have := ev_con k h; simp only [Con] at this ⊢
  exact this.elim (·.2) fun h => absurd rfl h.1
theorem con_outS {ρ : Env} {Φ : Fz} {w : World} {b n z : Nat} {x : Value} : Con ρ Φ w (.out b (n + 1) z) x ↔ Con ρ Φ w (.sliceo b 0 (n + 1) z) x := by
  simp only [Con]
  exact ⟨fun h => h.elim (fun h => absurd h.1 (Nat.succ_ne_zero _)) (·.2), fun h => .inr ⟨Nat.succ_ne_zero _, h⟩⟩
theorem con_out0 {ρ : Env} {Φ : Fz} {w : World} {b z : Nat} {x : Value} : Con ρ Φ w (.out b 0 z) x ↔ Con ρ Φ w .nils x := by
  simp only [Con]
  exact ⟨fun h => h.elim (·.2) fun h => absurd rfl h.1, fun h => .inl ⟨trivial, h⟩⟩
theorem le_nils_out {b z : Nat} : AV.le .nils (.out b 0 z) := fun _ _ _ _ h => con_out0.2 h
theorem le_out_sliceo {b n z : Nat} (hn : n ≠ 0) : AV.le (.out b n z) (.sliceo b 0 n z) := fun ρ Φ w x h => by
  obtain ⟨m, rfl⟩ := Nat.exists_eq_succ_of_ne_zero hn; exact con_outS.1 h
theorem le_sliceo_out {b n z : Nat} (hn : n ≠ 0) : AV.le (.sliceo b 0 n z) (.out b n z) := fun ρ Φ w x h => by
  obtain ⟨m, rfl⟩ := Nat.exists_eq_succ_of_ne_zero hn; exact con_outS.2 h
/-- A value of a slot, by what it says less. -/
theorem OpU.weakT {o : Oper} {v : AV} {ups : AH} {nx' : Nat} {T' : AT} (hT : ∀ ρ Φ w tmps, TmpsAt ρ Φ w T C.nt tmps → TmpsAt ρ Φ w T' C.nt tmps) (h : OpU C o T' H nx v ups nx') : OpU C o T H nx v ups nx' :=
  fun ρ Φ a w h1 h2 h3 => h ρ Φ a w h1 (hT ρ Φ w a.tmps h2) h3
theorem OpU.weakV {o : Oper} {v v' : AV} {ups : AH} {nx' : Nat} (hv : v.le v') (h : OpU C o T H nx v ups nx') : OpU C o T H nx v' ups nx' :=
  fun ρ Φ a w h1 h2 h3 K Q k => h ρ Φ a w h1 h2 h3 K Q fun ρ' Φ' x w' hp hx => k ρ' Φ' x w' hp (hv _ _ _ _ hx)
def chT (t : Nat) (v : AV) : AT → AT
  | [] => []
  | (i, u) :: l => if i.beq t then (i, v) :: chT t v l else (i, u) :: chT t v l
theorem lk_chT {t : Nat} {v : AV} : ∀ {T : AT} {i : Nat}, lk (chT t v T) i = if i = t then (lk T i).map (fun _ => v) else lk T i
  | [], i => by simp [chT, lk]
  | (j, u) :: T, i => by
    simp only [chT]
    by_cases e : j = t
    · subst e
      simp only [Nat.beq_refl, if_true, lk_cons]
      by_cases e2 : j = i
      · subst e2; simp
      · rw [if_neg e2, if_neg e2]; exact lk_chT (T := T)
    · rw [if_neg (by simpa using e)]
      simp only [lk_cons]
      by_cases e2 : j = i
      · subst e2; simp [e]
      · rw [if_neg e2, if_neg e2]; exact lk_chT (T := T)
theorem tmps_chT {t : Nat} {u v : AV} (hu : lk T t = some u) (hle : u.le v) (ρ : Env) (Φ : Fz) (w : World) (tmps : Array Value) (h : TmpsAt ρ Φ w T C.nt tmps) : TmpsAt ρ Φ w (chT t v T) C.nt tmps :=
  ⟨h.size, fun i q hi => by
    rw [lk_chT] at hi
    split at hi
    · rename_i e; subst e
      rw [hu] at hi; cases hi
      obtain ⟨x, h1, h2⟩ := h.at_ _ _ hu
      exact ⟨x, hle _ _ _ _ h1, h2⟩
    · exact h.at_ i q hi⟩
theorem ev_ch {t : Nat} {u v : AV} (hu : lk T t = some u) : ev (chT t v T) (.tmp t) = some v := by
  simp only [ev, lk_chT, if_true, hu, Option.map_some]
theorem ev_ch_ne {t : Nat} {v : AV} {y : Operand} {u : AV} (h : ev T y = some u) (hne : y ≠ .tmp t) : ev (chT t v T) y = some u := by
  cases y with
  | tmp i => simp only [ev, lk_chT] at h ⊢; rw [if_neg (fun e => hne (by rw [e]))]; exact h
  | _ => exact h
/-- append to a list that grows. -/
theorem U_appendO {sT xT e e' z n m b t : Nat} {y : Operand} {v : AV} {cs cs' news : List AV} [hT : TySl C.P sT e z] [hX : TySl C.P xT e' z] [hE : TyElem C.P e z] (hx : lk T t = some (.out b n z)) (hy : ev T y = some v) (hne : y ≠ .tmp t) (hg : gt H b = outB cs e n) (hl : cs.length = n * z) (h2 : srcS z H v = some (news, m + 1))
    (h1 : news.all AV.one = true) (hlim : n + (m + 1) ≤ 1000000) (hc : cs ++ news = cs') :
    OpU C ⟨d, .call ⟨.builtin .append, #[.tmp t, y], #[sT, xT]⟩, ty, pos, after, g⟩ T H nx (.out nx (n + (m + 1)) z) [(nx, outB cs' e (n + (m + 1))), (b, none)] (nx + 1) := by
  cases n with
  | zero =>
    have h := U_appendOut (C := C) (T := chT t (outV b z 0) T) (H := H) (nx := nx) (d := d) (ty := ty) (pos := pos) (after := after) (g := g) (sT := sT) (xT := xT) (n := 0) (b := b) (ev_ch hx) (ev_ch_ne hy hne) hg hl h2 h1 hlim hc
    refine OpU.weakT (fun ρ Φ w tmps k => tmps_chT hx (fun _ _ _ _ h => con_out0.1 h) ρ Φ w tmps k) (OpU.weakV ?_ h)
    rw [show 0 + (m + 1) = m + 1 by omega]
    exact fun _ _ _ _ h => con_outS.2 h
  | succ n =>
    have h := U_appendOut (C := C) (T := chT t (outV b z (n + 1)) T) (H := H) (nx := nx) (d := d) (ty := ty) (pos := pos) (after := after) (g := g) (sT := sT) (xT := xT) (n := n + 1) (b := b) (ev_ch hx) (ev_ch_ne hy hne) hg hl h2 h1 hlim hc
    refine OpU.weakT (fun ρ Φ w tmps k => tmps_chT hx (fun _ _ _ _ h => con_outS.1 h) ρ Φ w tmps k) (OpU.weakV ?_ h)
    rw [show n + 1 + (m + 1) = (n + 1 + m) + 1 by omega]
    exact fun _ _ _ _ h => con_outS.2 h
/-- .. to nothing. -/
theorem U_appendN {sT xT e e' z m : Nat} {x y : Operand} {v : AV} {news : List AV} [hT : TySl C.P sT e z] [hX : TySl C.P xT e' z] [hE : TyElem C.P e z] (hx : ev T x = some .nils) (hy : ev T y = some v) (h2 : srcS z H v = some (news, m + 1)) (hlim : m + 1 ≤ 1000000) :
    OpU C ⟨d, .call ⟨.builtin .append, #[x, y], #[sT, xT]⟩, ty, pos, after, g⟩ T H nx (.out nx (m + 1) z) [(nx, some (.cells news e))] (nx + 1) := by
  have h := U_appendGrow (C := C) (T := T) (H := H) (nx := nx) (d := d) (ty := ty) (pos := pos) (after := after) (g := g) (sT := sT) (xT := xT) (c := 0) (s := .nils) (olds := []) (n := 0) hx hy rfl h2 rfl (by omega) (by omega)
  rw [Nat.zero_add] at h
  exact OpU.weakV (fun _ _ _ _ h => con_outS.2 h) h
/-- .. to an immutable list without room. -/
theorem U_appendR {sT xT e e' z n m c : Nat} {x y : Operand} {v : AV} {cs olds cs' news : List AV} [hT : TySl C.P sT e z] [hX : TySl C.P xT e' z] [hE : TyElem C.P e z] (hx : ev T x = some (.ros cs n (some c))) (hy : ev T y = some v) (h1 : srcS z H (.ros cs n (some c)) = some (olds, n)) (h2 : srcS z H v = some (news, m + 1)) (hgrow : c < n + (m + 1)) (hlim : n + (m + 1) ≤ 1000000) (hc : olds ++ news = cs') :
    OpU C ⟨d, .call ⟨.builtin .append, #[x, y], #[sT, xT]⟩, ty, pos, after, g⟩ T H nx (.out nx (n + (m + 1)) z) [(nx, some (.cells cs' e))] (nx + 1) := by
  subst hc
  exact OpU.weakV (le_sliceo_out (by omega)) (U_appendGrow hx hy h1 h2 rfl hgrow hlim)
/-- A list that grows, with no more room than it shows: it is the same. -/
theorem U_sliceO3 {t e z b n i : Nat} {hi mx : Operand} [hT : TySl C.P t e z] (hx : lk T i = some (.out b n z)) (hhi : bnd T 0 (some hi) = some (n : Int)) (hmx : bnd T 0 (some mx) = some (n : Int)) (n1 : hi ≠ .tmp i) (n2 : mx ≠ .tmp i) :
    OpU C ⟨d, .slice t (.tmp i) none (some hi) (some mx), ty, pos, after, g⟩ T H nx (.out b n z) [] nx := by
  have hb : ∀ {v : AV} {y : Operand}, bnd T 0 (some y) = some (n : Int) → y ≠ .tmp i → bnd (chT i v T) 0 (some y) = some (n : Int) := fun {v y} h hne => by
    simp only [bnd] at h ⊢
    split at h
    · rename_i k m e; rw [ev_ch_ne e hne]; exact h
    · cases h
  cases n with
  | zero => exact OpU.weakT (fun ρ Φ w tmps k => tmps_chT hx (fun _ _ _ _ h => con_out0.1 h) ρ Φ w tmps k) (OpU.weakV le_nils_out (U_sliceN3 (ev_ch hx) (hb hhi n1) (hb hmx n2)))
  | succ n =>
    exact OpU.of_value (by intro c; simp) fun ρ Φ a w h3 _ => by
      have hp := ev_con (x := .tmp i) h3 hx
      simp only [Con] at hp
      obtain ⟨y, k, e1, e3, e4, e2⟩ := (hp.resolve_left fun h => Nat.succ_ne_zero _ h.1).2
      have := run_sliceAt (P := C.P) (w := w) (t := t) (ad := some ⟨y.1, y.2.1 + 0, none⟩) (n := n + 1) (k := k) (l := 0) (h := n + 1) (m := n + 1) (lo := none) rfl (bnd_con h3 hhi) (mx := some (a.eval mx)) (hi := some (a.eval hi)) ⟨rfl, bnd_con h3 hmx⟩ (Nat.zero_le _) (Nat.le_refl _) (by omega)
      refine ⟨.slice (some ⟨y.1, y.2.1 + 0, none⟩) (n + 1) (n + 1), ?_, ?_⟩
      · simp only [execOp, e2, Sem.run_bind, Option.map_none, Option.map_some, this, Result.andThen_ok, Sem.run_pure]
        simp [add_at]
      · simp only [Con]
        refine .inr ⟨Nat.succ_ne_zero _, y, n + 1, e1, Nat.le_refl _, ?_, rfl⟩
        have : (n + 1) * z ≤ k * z := Nat.mul_le_mul_right z e3
        omega
theorem U_indexO {t : TypeId} {x i : Operand} {k : IntKind} {b n zz e z j : Nat} {m : Int} [hT : TySl C.P t e z] (hx : ev T x = some (.out b n zz)) (hi : ev T i = some (.int k m)) (hj : m = j) (hlt : j < n) :
    OpU C ⟨d, .indexAddr t x i, ty, pos, after, g⟩ T H nx (.ptr b (0 + j * z)) [] nx :=
  OpU.of_value (by intro c; simp) fun ρ Φ a w h2 _ => by
    subst hj
    have hp := ev_con h2 hx
    simp only [Con] at hp
    obtain ⟨y, k', hy, _, _, hp⟩ := (hp.resolve_left fun h => by omega).2
    refine ⟨.pointer (some ⟨y.1, y.2.1 + 0 + j * z, none⟩), ?_, ?_⟩
    · simp [execOp, hp, con_int (ev_con h2 hi), Instr.indexAt, asIntOf, run_underlying hT.un, hT.size, hlt, add_at]
    · simp only [Con]; exact ⟨y, hy, by rw [Nat.add_assoc]⟩
end ops

/-! ### From state to state -/
def entTo (σ : Nat → Nat) (n : Nat) (i : Nat) (v : AV) (T : AT) : Prop := ∃ u, lk T i = some u ∧ u.le (v.ren σ) ∧ v.belb n = true
theorem e_ {σ : Nat → Nat} {n i : Nat} {v : AV} {T : AT} (h : lk T i = some (v.ren σ)) (hb : v.belb n = true) : entTo σ n i v T := ⟨_, h, le_refl _, hb⟩
theorem eD {σ : Nat → Nat} {n i : Nat} {v : AV} {T : AT} (h : lk T i = some v) (hd : v.data) : entTo σ n i v T := ⟨_, h, by rw [ren_data v hd]; exact le_refl _, belb_data v hd⟩
theorem eW {σ : Nat → Nat} {n i : Nat} {u v : AV} {T : AT} (h : lk T i = some u) (hl : u.le (v.ren σ)) (hb : v.belb n = true) : entTo σ n i v T := ⟨_, h, hl, hb⟩
def toT (σ : Nat → Nat) (n : Nat) : AT → AT → Prop
  | [], _ => True
  | (i, v) :: l, T => entTo σ n i v T ∧ toT σ n l T
theorem toT_lk {σ : Nat → Nat} {n : Nat} : ∀ {T' T : AT}, toT σ n T' T → ∀ i v, lk T' i = some v → entTo σ n i v T
  | [], _, _, i, v, h => by cases h
  | (j, u) :: l, T, ⟨h1, h2⟩, i, v, h => by
    rw [lk_cons] at h
    split at h
    · rename_i e; subst e; cases h; exact h1
    · exact toT_lk h2 i v h
def rowTo (σ : Nat → Nat) (n b : Nat) (k : Option ABlk) (H : AH) : Prop := ∀ q, k = some q → gt H (σ b) = some (q.ren σ) ∧ b < n ∧ q.belb n = true
theorem r_ {σ : Nat → Nat} {n b : Nat} {q : ABlk} {H : AH} (h : gt H (σ b) = some (q.ren σ)) (hb : b.blt n = true) (hq : q.belb n = true) : rowTo σ n b (some q) H := fun _ e => by cases e; exact ⟨h, ltOf hb, hq⟩
theorem rD {σ : Nat → Nat} {n b : Nat} {cs : List AV} {t : TypeId} {H : AH} (hd : dataL cs) (h : gt H (σ b) = some (.cells cs t)) (hb : b.blt n = true) : rowTo σ n b (some (.cells cs t)) H := fun _ e => by
  cases e; exact ⟨by rw [h]; simp only [ABlk.ren, renL_data cs hd], ltOf hb, by simp only [ABlk.belb, belbL_data cs hd]⟩
theorem rO {σ : Nat → Nat} {n b m : Nat} {cs : List AV} {t : TypeId} {H : AH} (hd : dataL cs) (h : gt H (σ b) = outB cs t m) (hb : b.blt n = true) : rowTo σ n b (outB cs t m) H := by
  cases m with
  | zero => intro _ e; cases e
  | succ m => exact rD hd h hb
theorem rO0 {σ : Nat → Nat} {n b m : Nat} {cs : List AV} {t : TypeId} {H : AH} (h0 : m = 0) : rowTo σ n b (outB cs t m) H := by subst h0; intro _ e; cases e
def toH (σ : Nat → Nat) (n : Nat) : AH → AH → Prop
  | [], _ => True
  | (b, k) :: l, H => rowTo σ n b k H ∧ toH σ n l H
theorem toH_gt {σ : Nat → Nat} {n : Nat} : ∀ {H' H : AH}, toH σ n H' H → ∀ b q, gt H' b = some q → gt H (σ b) = some (q.ren σ) ∧ b < n ∧ q.belb n = true
  | [], _, _, i, v, h => by cases h
  | (j, u) :: l, H, ⟨h1, h2⟩, i, v, h => by
    rw [gt_cons] at h
    split at h
    · rename_i e; subst e; exact h1 v h
    · exact toH_gt h2 i v h
theorem keysIn : ∀ {H : AH} {b : Nat}, gt H b ≠ none → b ∈ H.map (·.1)
  | [], b, h => absurd rfl h
  | (c, u) :: H, b, h => by
    rw [gt_cons] at h
    by_cases e : c = b
    · simp [e]
    · rw [if_neg e] at h; simp only [List.map_cons, List.mem_cons]; exact .inr (keysIn h)
/-- Blocks get other numbers, those from a number on are forgotten, values say less. -/
theorem Gh_to {C : Ctx} {T T' : AT} {H H' : AH} {nx n : Nat} {df : List Nat} (σ : Nat → Nat) (hT : toT σ n T' T) (hH : toH σ n H' H) (hi : injL σ (H'.map (·.1)) = true) (hdf : df.map σ = df) (bd : df.all (·.blt n) = true) (hk : C.k0.ble n = true) (hb : ∀ b, b < C.k0 → σ b = b) : Gh C ⟨T, H, nx, df⟩ ⟨T', H', n, df⟩ := fun ρ Φ a w h => by
  have up : ∀ b x, b < n → ρ (σ b) = some x → (if b < n then ρ (σ b) else none) = some x := fun b x e1 e2 => by rw [if_pos e1]; exact e2
  have dn : ∀ b x, (if b < n then ρ (σ b) else none) = some x → b < n ∧ ρ (σ b) = some x := fun b x e => by
    split at e
    · rename_i e1; exact ⟨e1, e⟩
    · cases e
  have live : ∀ c, gt H' c ≠ none → c < n ∧ gt H (σ c) ≠ none := fun c hc => by
    cases e : gt H' c with
    | none => exact absurd e hc
    | some k => obtain ⟨e1, e2, _⟩ := toH_gt hH c k e; exact ⟨e2, by rw [e1]; simp⟩
  have hdf' : (⟨T, H, nx, df⟩ : St).df = df.map σ := hdf.symm
  refine ⟨fun b => if b < n then ρ (σ b) else none, Φ, fun b hb => ?_, ⟨h.tm.size, fun i v hi => ?_⟩, ⟨fun b k hb => ?_, fun b b' x x' h1 h2 h3 h4 e => ?_, fun b x h1 h2 => ?_, fun b x h1 h2 => ?_, h.mem.frz, h.mem.keep⟩, h.df, h.fz, fun b h1 => ?_, Nat.le_of_ble_eq_true hk, h.dk⟩
  · have hb : (if b < n then ρ (σ b) else none) ≠ none := hb
    show b < n
    split at hb
    · assumption
    · exact absurd rfl hb
  · obtain ⟨u, e1, e2, e3⟩ := toT_lk hT i v hi
    obtain ⟨x, f1, f2⟩ := h.tm.at_ i u e1
    exact ⟨x, Con.unren up v e3 (e2 _ _ _ _ f1), f2⟩
  · obtain ⟨b0, b1, b2⟩ := toH_gt hH b k hb
    obtain ⟨x, o, e1, e2, e3⟩ := h.mem.at_ _ _ b0
    exact ⟨x, o, up b x b1 e1, e2, e3.unren up b2⟩
  · have l1 := live b h1; have l2 := live b' h2
    have := h.mem.inj _ _ x x' l1.2 l2.2 (dn b x h3).2 (dn b' x' h4).2 e
    exact injL_of hi b (keysIn h1) b' (keysIn h2) this
  · exact h.mem.free _ x (live b h1).2 (dn b x h2).2
  · exact h.mem.own _ x (live b h1).2 (dn b x h2).2
  · show (if b < n then ρ (σ b) else none) = _
    rw [if_pos (Nat.lt_of_lt_of_le h1 (Nat.le_of_ble_eq_true hk)), hb b h1]; exact h.base b h1
section
variable {C : Ctx} {c : Code} {Q : Exit → St → Prop} {T T' : AT} {H H' : AH} {nx n : Nat} {df : List Nat}
theorem Wto (σ : Nat → Nat) (hT : toT σ n T' T) (hH : toH σ n H' H) (hi : injL σ (H'.map (·.1)) = true) (hdf : df.map σ = df) (bd : df.all (·.blt n) = true) (hk : C.k0.ble n = true) (hb : ∀ b, b < C.k0 → σ b = b) (k : WpA C c Q ⟨T', H', n, df⟩) : WpA C c Q ⟨T, H, nx, df⟩ :=
  W_gh (Gh_to σ hT hH hi hdf bd hk hb) k
theorem Rto {ops : Array Oper} {i : Nat} {K : St → Prop} (σ : Nat → Nat) (hT : toT σ n T' T) (hH : toH σ n H' H) (hi : injL σ (H'.map (·.1)) = true) (hdf : df.map σ = df) (bd : df.all (·.blt n) = true) (hk : C.k0.ble n = true) (hb : ∀ b, b < C.k0 → σ b = b) (k : Reg C ops i K ⟨T', H', n, df⟩) : Reg C ops i K ⟨T, H, nx, df⟩ :=
  Reg_gh (Gh_to σ hT hH hi hdf bd hk hb) k
theorem joinTo (σ : Nat → Nat) (hT : toT σ n T' T) (hH : toH σ n H' H) (hi : injL σ (H'.map (·.1)) = true) (hdf : df.map σ = df) (bd : df.all (·.blt n) = true) (hk : C.k0.ble n = true) (hb : ∀ b, b < C.k0 → σ b = b) : (Exit.normal = .normal ∧ Gh C ⟨T, H, nx, df⟩ ⟨T', H', n, df⟩) := ⟨rfl, Gh_to σ hT hH hi hdf bd hk hb⟩
theorem LoopTo (h : c.tag = 6) (I : Nat → St → Prop) {m : Nat} (h0 : I m ⟨T', H', n, df⟩) (σ : Nat → Nat) (hT : toT σ n T' T) (hH : toH σ n H' H) (hi : injL σ (H'.map (·.1)) = true) (hdf : df.map σ = df) (bd : df.all (·.blt n) = true) (hk : C.k0.ble n = true) (hb : ∀ b, b < C.k0 → σ b = b) (round : ∀ n s, I n s → WpA C c.l (thenQ (againP C I n) Q) s) : WpA C c Q ⟨T, H, nx, df⟩ :=
  Wto σ hT hH hi hdf bd hk hb (Wloop h I h0 round)
theorem againTo {I : Nat → St → Prop} {k : Nat} (m : Nat) (hI : I m ⟨T', H', n, df⟩) (hm : m < k) (σ : Nat → Nat) (hT : toT σ n T' T) (hH : toH σ n H' H) (hi : injL σ (H'.map (·.1)) = true) (hdf : df.map σ = df) (bd : df.all (·.blt n) = true) (hk : C.k0.ble n = true) (hb : ∀ b, b < C.k0 → σ b = b) : againP C I k ⟨T, H, nx, df⟩ :=
  ⟨_, m, Gh_to σ hT hH hi hdf bd hk hb, hm, hI⟩
end

/-! ### A list that has grown is turned no more -/
mutual
/-- Whether a value names a block. -/
def AV.nob (b : Nat) : AV → Bool
  | .ptr b' _ | .slice b' _ _ _ | .sliceo b' _ _ _ | .out b' _ _ | .mapl b' | .yld b' => !(b'.beq b)
  | .agg l | .tup l => nobL b l
  | .fn _ x y => nobL b x && nobL b y
  | _ => true
def nobL (b : Nat) : List AV → Bool
  | [] => true
  | v :: l => v.nob b && nobL b l
end
mutual
theorem fr_nob {b : Nat} {cs : List AV} : ∀ (v : AV), v.nob b = true → v.fr b cs = v
  | .bool _, _ | .int _ _, _ | .str _, _ | .nilp, _ | .nils, _ | .nilm, _ | .nilf, _ | .nili, _ | .rop _ _, _ | .ros _ _ _, _ | .rom _, _ | .mapl _, _ | .yld _, _ => rfl
  | .ptr b' _, h | .slice b' _ _ _, h | .sliceo b' _ _ _, h | .out b' _ _, h => by
    have h' : (b'.beq b) = false := by simpa [AV.nob] using h
    simp [AV.fr, h']
  | .agg l, h => by
    have h' : nobL b l = true := by simpa only [AV.nob] using h
    simp only [AV.fr, frL_nob l h']
  | .tup l, h => by
    have h' : nobL b l = true := by simpa only [AV.nob] using h
    simp only [AV.fr, frL_nob l h']
  | .fn f x y, h => by
    have h' : nobL b x = true ∧ nobL b y = true := by simpa only [AV.nob, Bool.and_eq_true] using h
    simp only [AV.fr, frL_nob x h'.1, frL_nob y h'.2]
theorem frL_nob {b : Nat} {cs : List AV} : ∀ (l : List AV), nobL b l = true → frL b cs l = l
  | [], _ => rfl
  | v :: l, h => by
    have h' : v.nob b = true ∧ nobL b l = true := by simpa only [nobL, Bool.and_eq_true] using h
    simp only [frL, fr_nob v h'.1, frL_nob l h'.2]
end
mutual
theorem nob_data {b : Nat} : ∀ (v : AV), v.data → v.nob b = true
  | .bool _, _ | .int _ _, _ | .str _, _ | .nilp, _ | .nils, _ | .nilm, _ | .nilf, _ | .nili, _ | .rop _ _, _ | .ros _ _ _, _ | .rom _, _ => rfl
  | .ptr _ _, d | .slice _ _ _ _, d | .sliceo _ _ _ _, d | .out _ _ _, d | .mapl _, d | .yld _, d => by cases d
  | .agg cs, d => by
    have d' : isdL cs = true := by simpa [AV.data, AV.isd] using d
    simp only [AV.nob, nobL_data cs d']
  | .tup cs, d => by
    have d' : isdL cs = true := by simpa [AV.data, AV.isd] using d
    simp only [AV.nob, nobL_data cs d']
  | .fn f a b, d => by
    have d' : isdL a = true ∧ isdL b = true := by simpa [AV.data, AV.isd] using d
    simp only [AV.nob, nobL_data a d'.1, nobL_data b d'.2, Bool.and_self]
theorem nobL_data {b : Nat} : ∀ (l : List AV), dataL l → nobL b l = true
  | [], _ => rfl
  | v :: l, d => by
    have d' := dataL_cons.1 d
    simp only [nobL, nob_data v d'.1, nobL_data l d'.2, Bool.and_self]
end
theorem lk_frT {b : Nat} {cs : List AV} : ∀ {T : AT} {i : Nat}, lk (frT b cs T) i = (lk T i).map (AV.fr b cs)
  | [], i => rfl
  | (j, u) :: T, i => by
    simp only [frT, lk_cons]; split
    · rfl
    · exact lk_frT
/-- What a value becomes. -/
inductive FrO (b n z : Nat) (cs : List AV) : AV → AV → Prop where
  | same {v : AV} (h : v.nob b = true) : FrO b n z cs v v
  | out : FrO b n z cs (.out b n z) (.ros cs n none)
  | nil (h : n = 0) : FrO b n z cs .nils (.ros cs n none)
inductive FrOL (b n z : Nat) (cs : List AV) : List AV → List AV → Prop where
  | nil : FrOL b n z cs [] []
  | cons {v v' : AV} {l l' : List AV} (h : FrO b n z cs v v') (k : FrOL b n z cs l l') : FrOL b n z cs (v :: l) (v' :: l')
theorem FrOL.same {b n z : Nat} {cs : List AV} : ∀ {l : List AV}, nobL b l = true → FrOL b n z cs l l
  | [], _ => .nil
  | v :: l, h => by
    have h' : v.nob b = true ∧ nobL b l = true := by simpa only [nobL, Bool.and_eq_true] using h
    exact .cons (.same h'.1) (FrOL.same h'.2)
theorem FrO.le0 {b z : Nat} {cs : List AV} {v v' : AV} (h : FrO b 0 z cs v v') : v.le v' := by
  cases h with
  | same => exact le_refl _
  | out => exact fun _ _ _ _ h => le_nils _ _ _ _ (con_out0.1 h)
  | nil => exact le_nils
theorem FrOL.le0 {b z : Nat} {cs : List AV} : ∀ {l l' : List AV}, FrOL b 0 z cs l l' → leL l l'
  | _, _, .nil => leL_refl _
  | _, _, .cons h k => leL_cons h.le0 (FrOL.le0 k)
theorem FrO.eqS {b n z : Nat} {cs : List AV} {v v' : AV} (h : FrO b (n + 1) z cs v v') : v.fr b cs = v' := by
  cases h with
  | same h => exact fr_nob _ h
  | out => show (if b.beq b then AV.ros (cs.drop 0) (n + 1) none else _) = _; rw [if_pos (by simp)]; rfl
  | nil h => cases h
theorem FrOL.eqS {b n z : Nat} {cs : List AV} : ∀ {l l' : List AV}, FrOL b (n + 1) z cs l l' → frL b cs l = l'
  | _, _, .nil => rfl
  | _, _, .cons h k => by simp only [frL, h.eqS, FrOL.eqS k]
inductive FrOB (b n z : Nat) (cs : List AV) : Option ABlk → Option ABlk → Prop where
  | none {k : Option ABlk} : FrOB b n z cs k none
  | cells {l l' : List AV} {t : TypeId} (h : FrOL b n z cs l l') : FrOB b n z cs (some (.cells l t)) (some (.cells l' t))
  | out {l : List AV} {t : TypeId} {m : Nat} (h : dataL l) : FrOB b n z cs (outB l t m) (outB l t m)
def frOT (b n z : Nat) (cs : List AV) : AT → AT → Prop
  | [], _ => True
  | (i, v) :: l, T => (∃ u, lk T i = some u ∧ FrO b n z cs u v) ∧ frOT b n z cs l T
def frOH (b n z : Nat) (cs : List AV) : AH → AH → Prop
  | [], _ => True
  | (i, k) :: l, H => (i.beq b = false ∧ FrOB b n z cs (gt H i) k) ∧ frOH b n z cs l H
theorem frOT_lk {b n z : Nat} {cs : List AV} : ∀ {T' T : AT}, frOT b n z cs T' T → ∀ i v, lk T' i = some v → ∃ u, lk T i = some u ∧ FrO b n z cs u v
  | [], _, _, i, v, h => by cases h
  | (j, u) :: l, T, ⟨h1, h2⟩, i, v, h => by
    rw [lk_cons] at h
    split at h
    · rename_i e; subst e; cases h; exact h1
    · exact frOT_lk h2 i v h
theorem frOH_gt {b n z : Nat} {cs : List AV} : ∀ {H' H : AH}, frOH b n z cs H' H → ∀ i q, gt H' i = some q → i ≠ b ∧ FrOB b n z cs (gt H i) (some q)
  | [], _, _, i, v, h => by cases h
  | (j, u) :: l, H, ⟨h1, h2⟩, i, v, h => by
    rw [gt_cons] at h
    split at h
    · rename_i e; subst e; subst h; exact ⟨by rintro rfl; simp at h1, h1.2⟩
    · exact frOH_gt h2 i v h
theorem FrOB.inv {b n z : Nat} {cs : List AV} {k : Option ABlk} {q : ABlk} (h : FrOB b n z cs k (some q)) : ∃ l l' t, k = some (.cells l t) ∧ q = .cells l' t ∧ FrOL b n z cs l l' := by
  generalize e : some q = r at h
  cases h with
  | none => cases e
  | cells h => cases e; exact ⟨_, _, _, rfl, rfl, h⟩
  | @out l t m h =>
    cases m with
    | zero => cases e
    | succ m => cases e; exact ⟨l, l, t, rfl, rfl, .same (nobL_data l h)⟩
theorem BlkAt.leCells {ρ : Env} {Φ : Fz} {w : World} {x : Nat × Nat × Nat} {l l' : List AV} {t : TypeId} {o : Obj} (hl : leL l l') (h : BlkAt ρ Φ w x (.cells l t) o) : BlkAt ρ Φ w x (.cells l' t) o := by
  obtain ⟨pre, xs, rest, h1, h2⟩ := h; exact ⟨pre, xs, rest, hl _ _ _ _ h1, h2⟩
theorem Gh_frO {C : Ctx} {T T' : AT} {H H' : AH} {nx : Nat} {df : List Nat} {b n z : Nat} {cs : List AV} {t : TypeId} (hg : gt H b = outB cs t n) (hd : dataL cs) (hT : frOT b n z cs T' T) (hH : frOH b n z cs H' H) : Gh C ⟨T, H, nx, df⟩ ⟨T', H', nx, df⟩ := by
  cases n with
  | zero =>
    intro ρ Φ a w h
    refine ⟨ρ, Φ, h.dom, ⟨h.tm.size, fun i v hi => ?_⟩, ?_, h.df, h.fz, h.base, h.kn, h.dk⟩
    · obtain ⟨u, e1, e2⟩ := frOT_lk hT i v hi
      obtain ⟨x, f1, f2⟩ := h.tm.at_ i u e1
      exact ⟨x, e2.le0 _ _ _ _ f1, f2⟩
    · have hn : ∀ c, gt H' c ≠ none → gt H c ≠ none := fun c hc => by
        cases e : gt H' c with
        | none => exact absurd e hc
        | some q => obtain ⟨_, e2⟩ := frOH_gt hH c q e; obtain ⟨l, l', t, e3, _⟩ := e2.inv; rw [e3]; simp
      refine ⟨fun c k hc => ?_, fun c c' y y' e1 e2 => h.mem.inj c c' y y' (hn c e1) (hn c' e2), fun c y e1 => h.mem.free c y (hn c e1), fun c y e1 => h.mem.own c y (hn c e1), h.mem.frz, h.mem.keep⟩
      obtain ⟨_, e2⟩ := frOH_gt hH c k hc
      obtain ⟨l, l', t, e3, rfl, e4⟩ := e2.inv
      obtain ⟨y, o, f1, f2, f3⟩ := h.mem.at_ c _ e3
      exact ⟨y, o, f1, f2, f3.leCells e4.le0⟩
  | succ n =>
    have hg' : gt H b = some (.cells cs t) := hg
    intro ρ Φ a w h
    obtain ⟨Φ', q1, q2, q3, q4, q5⟩ := Frz.fr (C := C) (T := T) (H := H) b hg' hd ρ Φ a.tmps w h.tm h.mem
    refine ⟨ρ, Φ', h.dom, ⟨h.tm.size, fun i v hi => ?_⟩, q3.less fun c k hc => ?_, h.df.mono q5, ⟨fun r hr => (q4 r hr).elim (h.fz.1 r) .inr, Fz.le_trans h.fz.2 q1⟩, h.base, h.kn, h.dk.trans q5⟩
    · obtain ⟨u, e1, e2⟩ := frOT_lk hT i v hi
      refine q2.at_ i v ?_
      rw [lk_frT, e1]; simp only [Option.map_some, e2.eqS]
    · obtain ⟨e1, e2⟩ := frOH_gt hH c k hc
      obtain ⟨l, l', t, e3, rfl, e4⟩ := e2.inv
      rw [gt_cons, if_neg (fun e => e1 e.symm), frH_gt, e3]
      simp only [Option.map_some, ABlk.fr, e4.eqS]
section
variable {C : Ctx} {c : Code} {Q : Exit → St → Prop} {T T' : AT} {H H' : AH} {nx : Nat} {df : List Nat} {b n z : Nat} {cs : List AV} {t : TypeId}
theorem WfrO (b : Nat) (cs : List AV) (hg : gt H b = outB cs t n) (hd : dataL cs) (hT : frOT b n z cs T' T) (hH : frOH b n z cs H' H) (k : WpA C c Q ⟨T', H', nx, df⟩) : WpA C c Q ⟨T, H, nx, df⟩ := W_gh (Gh_frO hg hd hT hH) k
theorem RfrO {ops : Array Oper} {i : Nat} {K : St → Prop} (b : Nat) (cs : List AV) (hg : gt H b = outB cs t n) (hd : dataL cs) (hT : frOT b n z cs T' T) (hH : frOH b n z cs H' H) (k : Reg C ops i K ⟨T', H', nx, df⟩) : Reg C ops i K ⟨T, H, nx, df⟩ := Reg_gh (Gh_frO hg hd hT hH) k
theorem fS {b n z i : Nat} {cs : List AV} {v : AV} {T : AT} (h : lk T i = some v) (hv : v.nob b = true) : ∃ u, lk T i = some u ∧ FrO b n z cs u v := ⟨v, h, .same hv⟩
theorem fD {b n z i : Nat} {cs : List AV} {v : AV} {T : AT} (h : lk T i = some v) (hv : v.data) : ∃ u, lk T i = some u ∧ FrO b n z cs u v := ⟨v, h, .same (nob_data v hv)⟩
theorem fO {b n z i : Nat} {cs : List AV} {T : AT} (h : lk T i = some (.out b n z)) : ∃ u, lk T i = some u ∧ FrO b n z cs u (.ros cs n none) := ⟨_, h, .out⟩
end
end Go.AE
end

section
/- Abstract states, twenty-fourth part: states written out anew when a block is turned no more; lists that grow, by what they hold. -/
namespace Go.AE
open Go.RowKit

def frTT (b : Nat) (cs : List AV) : AT → AT → Prop
  | [], _ => True
  | (i, v) :: l, T => (∃ u, lk T i = some u ∧ u.fr b cs = v) ∧ frTT b cs l T
theorem frTT_lk {b : Nat} {cs : List AV} : ∀ {T' T : AT}, frTT b cs T' T → ∀ i v, lk T' i = some v → ∃ u, lk T i = some u ∧ u.fr b cs = v
  | [], _, _, i, v, h => by cases h
  | (j, u) :: l, T, ⟨h1, h2⟩, i, v, h => by
    rw [lk_cons] at h
    split at h
    · rename_i e; subst e; cases h; exact h1
    · exact frTT_lk h2 i v h
def RowF (b : Nat) (cs : List AV) (k k' : Option ABlk) : Prop := ∀ q, k' = some q → ∃ q', k = some q' ∧ q'.fr b cs = q
theorem rF {b : Nat} {cs : List AV} {k : Option ABlk} {q' q : ABlk} (h : k = some q') (e : q'.fr b cs = q) : RowF b cs k (some q) := fun _ h' => by cases h'; exact ⟨q', h, e⟩
theorem rFO {b m : Nat} {cs l : List AV} {t : TypeId} {k : Option ABlk} (hd : dataL l) (h : k = outB l t m) : RowF b cs k (outB l t m) := by
  cases m with
  | zero => intro _ e; cases e
  | succ m => exact rF h (by simp only [ABlk.fr, frL_nob l (nobL_data l hd)])
theorem rFD {b : Nat} {cs l : List AV} {t : TypeId} {k : Option ABlk} (hd : dataL l) (h : k = some (.cells l t)) : RowF b cs k (some (.cells l t)) := rF h (by simp only [ABlk.fr, frL_nob l (nobL_data l hd)])
def frHH (b : Nat) (cs : List AV) : AH → AH → Prop
  | [], _ => True
  | (i, k) :: l, H => (i.beq b = false ∧ RowF b cs (gt H i) k) ∧ frHH b cs l H
theorem frHH_gt {b : Nat} {cs : List AV} : ∀ {H' H : AH}, frHH b cs H' H → ∀ i q, gt H' i = some q → i ≠ b ∧ ∃ q', gt H i = some q' ∧ q'.fr b cs = q
  | [], _, _, i, v, h => by cases h
  | (j, u) :: l, H, ⟨h1, h2⟩, i, v, h => by
    rw [gt_cons] at h
    split at h
    · rename_i e; subst e; exact ⟨by rintro rfl; simp at h1, h1.2 v h⟩
    · exact frHH_gt h2 i v h
theorem Gh_frz {C : Ctx} {T T1 T' : AT} {H H1 H' : AH} {nx : Nat} {df : List Nat} (hz : Frz C T H T1 H1) (hT : ∀ i v, lk T' i = some v → lk T1 i = some v) (hH : ∀ b k, gt H' b = some k → gt H1 b = some k) : Gh C ⟨T, H, nx, df⟩ ⟨T', H', nx, df⟩ := fun ρ Φ a w h => by
  obtain ⟨Φ', q1, q2, q3, q4, q5⟩ := hz ρ Φ a.tmps w h.tm h.mem
  exact ⟨ρ, Φ', h.dom, ⟨h.tm.size, fun i v hi => q2.at_ i v (hT i v hi)⟩, q3.less hH, h.df.mono q5, ⟨fun r hr => (q4 r hr).elim (h.fz.1 r) .inr, Fz.le_trans h.fz.2 q1⟩, h.base, h.kn, h.dk.trans q5⟩
theorem Gh_frN {C : Ctx} {T T' : AT} {H H' : AH} {nx : Nat} {df : List Nat} {cs : List AV} {t : TypeId} (b : Nat) (hg : gt H b = some (.cells cs t)) (hd : dataL cs) (hT : frTT b cs T' T) (hH : frHH b cs H' H) : Gh C ⟨T, H, nx, df⟩ ⟨T', H', nx, df⟩ :=
  Gh_frz (Frz.fr b hg hd) (fun i v hi => by obtain ⟨u, e1, rfl⟩ := frTT_lk hT i v hi; rw [lk_frT, e1]; rfl)
    fun c k hc => by obtain ⟨e1, q', e2, rfl⟩ := frHH_gt hH c k hc; rw [gt_cons, if_neg (fun e => e1 e.symm), frH_gt, e2]; rfl
section
variable {C : Ctx} {c : Code} {Q : Exit → St → Prop} {T T' : AT} {H H' : AH} {nx : Nat} {df : List Nat} {cs : List AV} {t : TypeId}
theorem WfrN (b : Nat) (hg : gt H b = some (.cells cs t)) (hd : dataL cs) (hT : frTT b cs T' T) (hH : frHH b cs H' H) (k : WpA C c Q ⟨T', H', nx, df⟩) : WpA C c Q ⟨T, H, nx, df⟩ := W_gh (Gh_frN b hg hd hT hH) k
theorem RfrN {ops : Array Oper} {i : Nat} {K : St → Prop} (b : Nat) (hg : gt H b = some (.cells cs t)) (hd : dataL cs) (hT : frTT b cs T' T) (hH : frHH b cs H' H) (k : Reg C ops i K ⟨T', H', nx, df⟩) : Reg C ops i K ⟨T, H, nx, df⟩ := Reg_gh (Gh_frN b hg hd hT hH) k
end

section ops
variable {C : Ctx} {T : AT} {H : AH} {nx : Nat} {d : Option Tmp} {ty : TypeId} {pos : String} {after : Array Edge} {g : Option (Nat × Bool)}
/-- append to a list that grows. -/
theorem U_appO {sT xT e e' z n m n' b t : Nat} {y : Operand} {v : AV} {cs cs' news : List AV} [hT : TySl C.P sT e z] [hX : TySl C.P xT e' z] [hE : TyElem C.P e z] (hx : lk T t = some (.out b n z)) (hy : ev T y = some v) (hne : y ≠ .tmp t) (hg : gt H b = outB cs e n) (hl : cs.length = n * z) (h2 : srcS z H v = some (news, m + 1))
    (h1 : news.all AV.one = true) (hlim : n + (m + 1) ≤ 1000000) (hc : cs ++ news = cs') (hn : n + (m + 1) = n') :
    OpU C ⟨d, .call ⟨.builtin .append, #[.tmp t, y], #[sT, xT]⟩, ty, pos, after, g⟩ T H nx (.out nx n' z) [(nx, outB cs' e n'), (b, none)] (nx + 1) := by
  subst hn; exact U_appendO hx hy hne hg hl h2 h1 hlim hc
/-- .. to nothing. -/
theorem U_appN {sT xT e e' z m n' : Nat} {x y : Operand} {v : AV} {cs' news : List AV} [hT : TySl C.P sT e z] [hX : TySl C.P xT e' z] [hE : TyElem C.P e z] (hx : ev T x = some .nils) (hy : ev T y = some v) (h2 : srcS z H v = some (news, m + 1)) (hlim : m + 1 ≤ 1000000) (hc : news = cs') (hn : m + 1 = n') :
    OpU C ⟨d, .call ⟨.builtin .append, #[x, y], #[sT, xT]⟩, ty, pos, after, g⟩ T H nx (.out nx n' z) [(nx, outB cs' e n')] (nx + 1) := by
  subst hn; subst hc; exact U_appendN hx hy h2 hlim
/-- .. to an immutable list without room. -/
theorem U_appR {sT xT e e' z n m c n' : Nat} {x y : Operand} {v : AV} {cs cs' news : List AV} [hT : TySl C.P sT e z] [hX : TySl C.P xT e' z] [hE : TyElem C.P e z] (hx : ev T x = some (.ros cs n (some c))) (hy : ev T y = some v) (hl : cs.length = n * z) (h2 : srcS z H v = some (news, m + 1)) (hgrow : c < n + (m + 1)) (hlim : n + (m + 1) ≤ 1000000) (hc : cs ++ news = cs') (hn : n + (m + 1) = n') :
    OpU C ⟨d, .call ⟨.builtin .append, #[x, y], #[sT, xT]⟩, ty, pos, after, g⟩ T H nx (.out nx n' z) [(nx, outB cs' e n')] (nx + 1) := by
  subst hn; subst hc
  have := U_appendR (C := C) (T := T) (H := H) (nx := nx) (d := d) (ty := ty) (pos := pos) (after := after) (g := g) (e := e) (sT := sT) (xT := xT) (olds := cs) hx hy (by simp only [srcS, hl, Nat.le_refl, if_true]; rw [List.take_of_length_le (by omega)]) h2 hgrow hlim rfl
  exact this
end ops

/-! ### Lists as cells -/
theorem flat_len {α : Type} {f : α → List AV} {z : Nat} (hf : ∀ e, (f e).length = z) : ∀ (l : List α), (l.flatMap f).length = l.length * z
  | [] => by simp
  | e :: l => by simp only [List.flatMap_cons, List.length_append, hf, flat_len hf l, List.length_cons, Nat.add_mul, Nat.one_mul]; omega
theorem map_len1 {α : Type} {g : α → AV} (l : List α) : (l.map g).length = l.length * 1 := by simp
theorem getM {α : Type} {g : α → AV} {l : List α} {k : Nat} (h : k < l.length) : (l.map g)[k * 1]? = some (g l[k]) := by simp [h]
theorem getM0 {α : Type} {g : α → AV} {l : List α} {k : Nat} (h : k < l.length) : (l.map g)[0 + k * 1]? = some (g l[k]) := by simp [h]
theorem setM {α : Type} {g : α → AV} {l : List α} {k : Nat} {x : α} : setC (l.map g) (0 + k * 1) [g x] = (l.set k x).map g := by simp [setC, List.map_set]
theorem mapD {α : Type} {g : α → AV} (hg : ∀ x, (g x).data) (l : List α) : dataL (l.map g) := dataL_map fun x _ => hg x
theorem flatD {α : Type} {f : α → List AV} (hf : ∀ x, dataL (f x)) (l : List α) : dataL (l.flatMap f) := dataL_flatMap fun x _ => hf x
theorem appM {α : Type} {g : α → AV} (l : List α) (x : α) : l.map g ++ [g x] = (l ++ [x]).map g := by simp
theorem appF {α : Type} {f : α → List AV} (l : List α) (x : α) : l.flatMap f ++ f x = (l ++ [x]).flatMap f := by simp
theorem len1 {α : Type} (l : List α) (x : α) : l.length + (0 + 1) = (l ++ [x]).length := by simp
end Go.AE
end

section
/- Abstract states, twenty-fifth part: numbers of all kinds, results that lie in immutable memory, beginnings of lists. -/
namespace Go.AE
open Go.RowKit
theorem wr_i64 {n : Int} (h1 : -9223372036854775808 ≤ n) (h2 : n ≤ 9223372036854775807) : IntKind.i64.wrap n = n := w64 h1 h2
theorem wr_u8 {n : Int} (h1 : 0 ≤ n) (h2 : n ≤ 255) : IntKind.u8.wrap n = n := by
  simp [IntKind.wrap, IntKind.signed, IntKind.bits]; omega
theorem wr_u16 {n : Int} (h1 : 0 ≤ n) (h2 : n ≤ 65535) : IntKind.u16.wrap n = n := by
  simp [IntKind.wrap, IntKind.signed, IntKind.bits]; omega
theorem wr_u32 {n : Int} (h1 : 0 ≤ n) (h2 : n ≤ 4294967295) : IntKind.u32.wrap n = n := by
  simp [IntKind.wrap, IntKind.signed, IntKind.bits]; omega
theorem wr_u64 {n : Int} (h1 : 0 ≤ n) (h2 : n ≤ 18446744073709551615) : IntKind.u64.wrap n = n := by
  simp [IntKind.wrap, IntKind.signed, IntKind.bits]; omega
theorem wr_i8 {n : Int} (h1 : -128 ≤ n) (h2 : n ≤ 127) : IntKind.i8.wrap n = n := by
  simp [IntKind.wrap, IntKind.signed, IntKind.bits]; split <;> omega
theorem wr_i16 {n : Int} (h1 : -32768 ≤ n) (h2 : n ≤ 32767) : IntKind.i16.wrap n = n := by
  simp [IntKind.wrap, IntKind.signed, IntKind.bits]; split <;> omega
theorem wr_i32 {n : Int} (h1 : -2147483648 ≤ n) (h2 : n ≤ 2147483647) : IntKind.i32.wrap n = n := by
  simp [IntKind.wrap, IntKind.signed, IntKind.bits]; split <;> omega
theorem tdivN (a b : Nat) : (a : Int).tdiv b = ((a / b : Nat) : Int) := by rw [Int.tdiv_eq_ediv_of_nonneg (by omega)]; rfl
theorem tmodN (a b : Nat) : (a : Int).tmod b = ((a % b : Nat) : Int) := by rw [Int.tmod_eq_emod_of_nonneg (by omega)]; rfl
theorem wquoN {a b : Nat} (h : a ≤ 9223372036854775807) : IntKind.i64.wrap ((a : Int).tdiv b) = ((a / b : Nat) : Int) := by
  rw [tdivN]; have := Nat.div_le_self a b; generalize a / b = q at *; exact w64 (by omega) (by omega)
section
variable {P : Program} {T : AT} {H : AH} {nx : Nat}
theorem rlR {s : St} {t ty n : Nat} {cs : List AV} {rs : List ResultVar} {vs : List AV} [hT : TyVar P ty true n] (h : lk s.T t = some (.rop cs 0)) (hl : cs.length = n) (k : ResL P s rs vs) : ResL P s (.cell t ty :: rs) (.agg cs :: vs) :=
  ⟨_, vs, rfl, ⟨.rop cs 0, cs, 0, n, true, hT, h, rfl, by subst hl; simp [cellsAt]⟩, k⟩
end
section ops
variable {C : Ctx} {T : AT} {H : AH} {nx : Nat} {d : Option Tmp} {ty : TypeId} {pos : String} {after : Array Edge} {g : Option (Nat × Bool)}
/-- The beginning of a list. -/
theorem le_rosL {cs cs' : List AV} {n : Nat} (hd : dataL cs') (hn : ∀ (ρ : Env) Φ w r base xs, ConL ρ Φ w cs xs → At w r base xs → ∃ xs', ConL ρ Φ w cs' xs' ∧ At w r base xs') : AV.le (.ros cs n none) (.ros cs' n none) := fun ρ Φ w x h => by
  simp only [Con] at h ⊢
  rcases h with ⟨h1, h2, h3⟩ | ⟨r, base, xs, k, h1, h2, h3, h4, h5, h6, h7⟩
  · exact .inl ⟨h1, h2, h3⟩
  · obtain ⟨xs', e1, e2⟩ := hn ρ Φ w r base xs h5 h6
    exact .inr ⟨r, base, xs', k, h1, h2, h3, h4, e1, e2, hd⟩
theorem le_rosT {cs : List AV} {n m : Nat} (hd : dataL cs) : AV.le (.ros cs n none) (.ros (cs.take m) n none) :=
  le_rosL (dataL_take hd m) fun ρ Φ w r base xs h1 h2 => ⟨xs.take m, conL_take m h1, fun i v hi => h2 i v (by
    obtain ⟨hl, he⟩ := List.getElem?_eq_some_iff.1 hi
    rw [List.getElem_take] at he
    exact List.getElem?_eq_some_iff.2 ⟨by simp at hl; omega, he⟩)⟩
/-- The beginning of a list, as a list. -/
theorem U_sliceToL {t e z n h : Nat} {c : Option Nat} {x hi : Operand} {cs cs' : List AV} [hT : TySl C.P t e z] (hx : ev T x = some (.ros cs n c)) (hhi : bnd T 0 (some hi) = some (h : Int)) (h2 : h ≤ n) (hd : dataL cs) (hc : cs.take (h * z) = cs') :
    OpU C ⟨d, .slice t x none (some hi) none, ty, pos, after, g⟩ T H nx (.ros cs' h none) [] nx := by
  subst hc; exact OpU.weakV (le_rosT hd) (U_sliceTo hx hhi h2)
theorem takeM {α : Type} {g : α → AV} (l : List α) (k : Nat) : (l.map g).take (k * 1) = (l.take k).map g := by simp [List.map_take]
theorem takeF {α : Type} {f : α → List AV} {z : Nat} (hf : ∀ e, (f e).length = z) : ∀ (l : List α) (k : Nat), (l.flatMap f).take (k * z) = (l.take k).flatMap f
  | [], k => by simp
  | e :: l, 0 => by simp
  | e :: l, k + 1 => by
    rw [List.flatMap_cons, List.take_succ_cons, List.flatMap_cons, ← takeF hf l k, Nat.succ_mul, Nat.add_comm, ← hf e, List.take_length_add_append]
/-- append to a list that has not grown yet. -/
theorem U_appO0 {sT xT e e' z n m n' b t : Nat} {y : Operand} {v : AV} {cs cs' news : List AV} [hT : TySl C.P sT e z] [hX : TySl C.P xT e' z] [hE : TyElem C.P e z] (hx : lk T t = some (.out b n z)) (h0 : n = 0) (hy : ev T y = some v) (hne : y ≠ .tmp t) (hl : cs.length = n * z) (h2 : srcS z H v = some (news, m + 1))
    (hlim : n + (m + 1) ≤ 1000000) (hc : cs ++ news = cs') (hn : n + (m + 1) = n') :
    OpU C ⟨d, .call ⟨.builtin .append, #[.tmp t, y], #[sT, xT]⟩, ty, pos, after, g⟩ T H nx (.out nx n' z) [(nx, outB cs' e n')] (nx + 1) := by
  subst h0; subst hn; subst hc
  have hcs : cs = [] := List.length_eq_zero_iff.1 (by omega)
  subst hcs
  refine OpU.weakT (fun ρ Φ w tmps k => tmps_chT hx (fun _ _ _ _ h => con_out0.1 h) ρ Φ w tmps k) ?_
  have := U_appN (C := C) (T := chT t .nils T) (H := H) (nx := nx) (d := d) (ty := ty) (pos := pos) (after := after) (g := g) (sT := sT) (xT := xT) (e := e) (m := m) (ev_ch hx) (ev_ch_ne hy hne) h2 (by omega) rfl rfl
  rw [Nat.zero_add, List.nil_append]; exact this
end ops
theorem upsO {Hr : AH} {nx b n : Nat} {k : Option ABlk} {cs : List AV} {e : TypeId} (hg : gt Hr b = outB cs e n) (hn : 0 < n) : upsOk 2 Hr nx (nx + 1) [(nx, k), (b, none)] = true := by
  obtain ⟨m, rfl⟩ : ∃ m, n = m + 1 := ⟨n - 1, by omega⟩
  simp [upsOk, hg, outB]
end Go.AE
end

section
/- Abstract states, twenty-sixth part: calls of functions that turn blocks of the caller's; how such functions end. -/
namespace Go.AE
open Go.RowKit
theorem injR {τ : Nat → Nat} {k : Nat} (h : injL τ (List.range k) = true) : ∀ b b', b < k → b' < k → τ b = τ b' → b = b' := fun b b' h1 h2 e => injL_of h b (List.mem_range.2 h1) b' (List.mem_range.2 h2) e
theorem ltR {τ : Nat → Nat} {k nx : Nat} (h : (List.range k).all (fun b => (τ b).blt nx) = true) : ∀ b, b < k → τ b < nx := fun b hb => ltOf (List.all_eq_true.1 h b (List.mem_range.2 hb))
section ops
variable {C : Ctx} {T : AT} {H : AH} {nx : Nat} {d : Option Tmp} {ty : TypeId} {pos : String} {after : Array Edge} {g : Option (Nat × Bool)}
theorem U_callT {x : Operand} {args : Array Operand} {ts : Array TypeId} {f : FuncId} {fi ca vs a0 : List AV} {H0 H1 : AH} {k n1 : Nat} {res : AV} [hf : FnOk C.P f] (τ : Nat → Nat) (hx : ev T x = some (.fn f fi ca)) (hv : evL T args.toList = some vs) (hP : MutP C.P f a0 H0 k res H1 n1)
    (ha : fi ++ vs ++ ca = renL τ a0) (hba : belbL k a0 = true) (hH : toH τ k H0 H) (hi : injL τ (List.range k) = true) (hlt : (List.range k).all (fun b => (τ b).blt nx) = true) :
    OpU C ⟨d, .call ⟨.value x, args, ts⟩, ty, pos, after, g⟩ T H nx (res.ren (sigM τ k nx)) (renH (sigM τ k nx) H1 ++ deadH (sigM τ k nx) H0) (nx + (n1 - k)) := fun ρ Φ a w h1 h2 h3 K Q kk => by
  have hc := ev_con h2 hx
  simp only [Con] at hc
  obtain ⟨xs, ys, e1, e2, e3⟩ := hc
  have hargs : ConL ρ Φ w (fi ++ vs ++ ca) (xs ++ args.toList.map a.eval ++ ys) := conL_append (conL_append e1 (evL_con h2 hv)) e2
  have hrun : (execOp a.eval ⟨d, .call ⟨.value x, args, ts⟩, ty, pos, after, g⟩).run C.P w = .ok (.enter f (xs ++ args.toList.map a.eval ++ ys).toArray) w := by
    simp only [execOp, resolve, e3, Deferred.ofValue, Sem.run_bind, Sem.run_pure, Result.andThen_ok, invoke]
    rw [hf.run]
    simp [← Array.toList_map]
  refine ⟨fun _ _ => trivial, ?_⟩
  rw [Oper.semAt_eq _ _ _ (by intro c; simp), hrun]
  refine ⟨fun _ => by simp_all [Ctx.F, Fence.wide], (callsIn_of 0 (callM τ hP ha hba (toH_gt hH) (injR hi) (ltR hlt) ρ Φ w h1 h3 hargs)).mono ?_⟩
  rintro e w' ⟨y, ρ', Φ', rfl, h4, h5⟩
  exact kk ρ' Φ' y w' h4 h5
end ops
theorem rM {σ σ' : Nat → Nat} {n b m : Nat} {cs : List AV} {t : TypeId} {H : AH} (hd : dataL cs) (h : gt H (σ b) = (outB cs t m).map (ABlk.ren σ')) (hb : b.blt n = true) : rowTo σ n b (outB cs t m) H := by
  cases m with
  | zero => intro _ e; cases e
  | succ m => exact rD hd (by rw [h]; show some (ABlk.ren σ' (.cells cs t)) = _; simp only [ABlk.ren, renL_data cs hd]) hb
theorem rMD {σ σ' : Nat → Nat} {n b : Nat} {cs : List AV} {t : TypeId} {H : AH} (hd : dataL cs) (h : gt H (σ b) = (some (.cells cs t) : Option ABlk).map (ABlk.ren σ')) (hb : b.blt n = true) : rowTo σ n b (some (.cells cs t)) H :=
  rD hd (by rw [h]; simp only [Option.map_some, ABlk.ren, renL_data cs hd]) hb
theorem retTo {C : Ctx} {T T' : AT} {H H1 : AH} {nx n1 : Nat} {rs : List ResultVar} {vs : List AV} {res : AV} (σ : Nat → Nat) (hT : toT σ n1 T' T) (hH : toH σ n1 H1 H) (hi : injL σ (H1.map (·.1)) = true) (hk : C.k0.ble n1 = true) (hb : ∀ b, b < C.k0 → σ b = b) (h : ResL C.P ⟨T', H1, n1, []⟩ rs vs) (he : packA vs = res) : retMQ C rs res H1 n1 .ret ⟨T, H, nx, []⟩ :=
  ⟨T', vs, Gh_to σ hT hH hi rfl rfl hk hb, h, he⟩
theorem retTon {C : Ctx} {T T' : AT} {H H1 : AH} {nx n1 : Nat} {rs : List ResultVar} {vs : List AV} {res : AV} (σ : Nat → Nat) (hT : toT σ n1 T' T) (hH : toH σ n1 H1 H) (hi : injL σ (H1.map (·.1)) = true) (hk : C.k0.ble n1 = true) (hb : ∀ b, b < C.k0 → σ b = b) (h : ResL C.P ⟨T', H1, n1, []⟩ rs vs) (he : packA vs = res) : retMQ C rs res H1 n1 .normal ⟨T, H, nx, []⟩ :=
  ⟨T', vs, Gh_to σ hT hH hi rfl rfl hk hb, h, he⟩
end Go.AE
end

section
/- Abstract states, twenty-seventh part: clear; make and copy of lists. -/
namespace Go.AE
open Go.RowKit
section ops
variable {C : Ctx} {T : AT} {H : AH} {nx : Nat} {d : Option Tmp} {ty : TypeId} {pos : String} {after : Array Edge} {g : Option (Nat × Bool)}
theorem U_clear {t e z n b o c : Nat} {x : Operand} {cs cs' zs : List AV} {te : TypeId} [hT : TySl C.P t e z] [hz : TyZero C.P e zs] (hx : ev T x = some (.slice b o n c)) (hg : gt H b = some (.cells cs te)) (hzl : zs.length = z) (hl : o + n * z ≤ cs.length) (h1 : zs.all AV.one = true) (hs : setC cs o (List.replicate n zs).flatten = cs') :
    OpU C ⟨d, .call ⟨.builtin .clear, #[x], #[t]⟩, ty, pos, after, g⟩ T H nx (.tup []) [(b, some (.cells cs' te))] nx :=
  OpU.of_run (by intro c; simp) fun ρ Φ a w _ h3 h4 => by
    subst hs
    obtain ⟨zv, hz1, hz2⟩ := hz.zero
    have hzc := cvSL_con (ρ := ρ) (Φ := Φ) (w := w) hz2
    have hzs : zv.cells.size = z := by rw [← hzl, ← conL_len hzc]; simp
    have hcx := ev_con h3 hx
    simp only [Con] at hcx
    obtain ⟨yy, f1, f2⟩ := hcx
    obtain ⟨yy', ob, f5, f6, pre, xs, rest, f7, f8, f9, rfl⟩ := h4.at_ _ _ hg
    rw [f1] at f5; cases f5
    have hlx := conL_len f7
    have hys : ConL ρ Φ w (List.replicate n zs).flatten (List.replicate n zv.cells.toList).flatten := conL_flat hzc n
    have hyl := conL_len hys
    have hfl : (List.replicate n zs).flatten.length = n * z := by simp [hzl]
    have hone : ∀ v ∈ (List.replicate n zv.cells.toList).flatten, v.oneCell' = true := conL_one hys (by
      intro v hv
      obtain ⟨l, hl2, hv2⟩ := List.mem_flatten.1 hv
      rw [List.eq_of_mem_replicate hl2] at hv2
      exact List.all_eq_true.1 h1 v hv2)
    obtain ⟨w', hw1, hw2⟩ := run_storeCells (P := C.P) (pre := pre) (rest := rest) (t := te) (r := yy.1) o (List.replicate n zv.cells.toList).flatten xs 0 w f6 (by omega) hone
    have hp := Post.set h4 nx (k' := .cells (setC cs o (List.replicate n zs).flatten) te) hg f1 hw2 ⟨pre, setC xs o (List.replicate n zv.cells.toList).flatten, rest, conL_setC o f7 hys, f8, by simp [setC_len, f9], by simp⟩
    refine ⟨ρ, Φ, .tuple #[], w', .inl ?_, ?_, by simp only [Con]; exact ⟨[], conL_nil, rfl⟩⟩
    · simp only [execOp, resolve, Sem.run_bind, Sem.run_pure, Result.andThen_ok, invoke, builtin]
      have hst : (storeCells (⟨yy.1, yy.2.1 + o, none⟩ : Addr) (List.replicate n zv.cells.toList).flatten).run C.P w = .ok () w' := by rw [← f8]; exact hw1
      cases n with
      | zero =>
        have hww : w' = w := by
          simp only [List.replicate_zero, List.flatten_nil] at hst
          simp [storeCells] at hst; exact hst.symm
        subst hww
        simp [Builtin.clear_, run_underlying hT.un, f2]
      | succ n =>
        have hzz : (Builtin.zeroCells zv.cells (n + 1)).toList = (List.replicate (n + 1) zv.cells.toList).flatten := by
          unfold Builtin.zeroCells
          exact zeros_eq zv.cells (n + 1)
        simp only [Builtin.clear_, List.map_toArray, List.map_cons, List.map_nil, List.getElem?_toArray, List.getElem?_cons_zero, Sem.run_bind, run_underlying hT.un, Result.andThen_ok, f2, hz1, hzz, hst, Sem.run_pure]
    · rw [List.cons_append, List.nil_append, gt_upG]; exact hp
theorem U_mkL {t e n : Nat} {z cs' : List AV} {x y : Operand} {k k' : IntKind} {m : Int} [hT : TyMake C.P t e z] (hx : ev T x = some (.int k m)) (hy : ev T y = some (.int k' m)) (hm : m = n) (hlim : n ≤ 1000000) (hc : (List.replicate n z).flatten = cs') :
    OpU C ⟨d, .makeSlice t x y, ty, pos, after, g⟩ T H nx (.slice nx 0 n n) [(nx, some (.cells cs' e))] (nx + 1) := by
  subst hc; exact U_makeSlice hx hy hm hlim
end ops
theorem le_ros {l l' : List AV} {n : Nat} {c : Option Nat} (h : leL l l') (hd : dataL l') : AV.le (.ros l n c) (.ros l' n none) := fun ρ Φ w x e => by
  simp only [Con] at e ⊢
  rcases e with ⟨h1, h2, _⟩ | ⟨r, base, xs, k, h1, h2, h3, _, h5, h6, _⟩
  · exact .inl ⟨h1, h2, fun m hm => by cases hm⟩
  · exact .inr ⟨r, base, xs, k, h1, h2, h3, fun m hm => (by cases hm), h _ _ _ _ h5, h6, hd⟩
theorem fr_sl {b n c : Nat} {cs : List AV} (h : n ≤ c) : (AV.slice b 0 n c).fr b cs = .ros cs n (some c) := by
  show (if b.beq b && n.ble c then AV.ros (cs.drop 0) n (some c) else _) = _
  rw [if_pos (by simp [h])]; rfl
theorem srcR {z : Nat} {H : AH} {cs : List AV} {n : Nat} {c : Option Nat} (h : cs.length = n * z) : srcS z H (.ros cs n c) = some (cs, n) := by
  simp only [srcS, h, Nat.le_refl, if_true]; rw [List.take_of_length_le (by omega)]
theorem allM {α : Type} {g : α → AV} (hg : ∀ x, (g x).one = true) (l : List α) : (l.map g).all AV.one = true := by
  rw [List.all_eq_true]; intro v hv; obtain ⟨x, _, rfl⟩ := List.mem_map.1 hv; exact hg x
theorem setC_all {α : Type} {cs vs : List α} (h : vs.length = cs.length) : setC cs 0 vs = vs := by
  have := setC_app vs [] cs (by omega)
  simp only [List.nil_append, List.length_nil] at this
  rw [this, List.drop_of_length_le (by omega), List.append_nil]
theorem repl1 {α : Type} (n : Nat) (v : α) : (List.replicate n [v]).flatten = List.replicate n v := by
  induction n with
  | zero => rfl
  | succ n ih => rw [List.replicate_succ, List.flatten_cons, ih, List.replicate_succ]; rfl
theorem replM {α : Type} {f : α → AV} {x : α} {v : AV} (h : f x = v) (n : Nat) : (List.replicate n [v]).flatten = (List.replicate n x).map f := by rw [repl1, List.map_replicate, h]
theorem clearM {α : Type} {f : α → AV} {x : α} {v : AV} (h : f x = v) {n : Nat} {l : List α} (hl : l.length = n) : setC (l.map f) 0 (List.replicate n [v]).flatten = (List.replicate n x).map f := by
  rw [replM h]; exact setC_all (by simp [hl])
theorem copyM {α : Type} {f : α → AV} {l m : List α} (hl : m.length = l.length) : setC (l.map f) 0 (m.map f) = m.map f := setC_all (by simp [hl])
end Go.AE
end

section
/- Abstract states, part 28: bits of numbers that are not below 0. -/
namespace Go.AE
open Go.RowKit
theorem wrapN {n : Nat} (h : n < 9223372036854775808) : IntKind.i64.wrap (n : Int) = (n : Int) := wr_i64 (by omega) (by omega)
theorem shrN {n i : Nat} (h : n < 9223372036854775808) : ((n : Nat) : Int).fdiv (2 ^ min ((i : Nat) : Int).toNat IntKind.i64.bits) = ((n >>> i : Nat) : Int) := by
  have hb : IntKind.i64.bits = 64 := rfl
  rw [hb, Int.toNat_natCast, Int.fdiv_eq_ediv_of_nonneg _ (by exact_mod_cast Nat.zero_le (2 ^ min i 64)), Nat.shiftRight_eq_div_pow]
  by_cases hi : i ≤ 64
  · rw [Nat.min_eq_left hi]; norm_cast
  · rw [Nat.min_eq_right (by omega)]
    have h1 : n / 2 ^ i = 0 := Nat.div_eq_of_lt (Nat.lt_of_lt_of_le h (Nat.le_trans (by decide) (Nat.pow_le_pow_right (show 0 < 2 by omega) (show 63 ≤ i by omega))))
    rw [h1]
    omega
theorem ofIntN {n : Nat} : BitVec.ofInt IntKind.i64.bits ((n : Nat) : Int) = BitVec.ofNat 64 n := by
  show BitVec.ofInt 64 (n : Int) = _
  simp
theorem andN {a b : Nat} (ha : a < 9223372036854775808) (hb : b < 9223372036854775808) : IntKind.i64.wrap (BitVec.ofInt IntKind.i64.bits ((a : Nat) : Int) &&& BitVec.ofInt IntKind.i64.bits ((b : Nat) : Int)).toNat = ((a &&& b : Nat) : Int) := by
  have e : (BitVec.ofInt IntKind.i64.bits ((a : Nat) : Int) &&& BitVec.ofInt IntKind.i64.bits ((b : Nat) : Int)).toNat = a &&& b := by
    rw [ofIntN, ofIntN]
    show (BitVec.ofNat 64 a &&& BitVec.ofNat 64 b).toNat = _
    rw [BitVec.toNat_and, BitVec.toNat_ofNat, BitVec.toNat_ofNat, Nat.mod_eq_of_lt (by omega), Nat.mod_eq_of_lt (by omega)]
  rw [e]
  exact wrapN (Nat.lt_of_le_of_lt Nat.and_le_left ha)
theorem orN {a b : Nat} (ha : a < 9223372036854775808) (hb : b < 9223372036854775808) : IntKind.i64.wrap (BitVec.ofInt IntKind.i64.bits ((a : Nat) : Int) ||| BitVec.ofInt IntKind.i64.bits ((b : Nat) : Int)).toNat = ((a ||| b : Nat) : Int) := by
  have e : (BitVec.ofInt IntKind.i64.bits ((a : Nat) : Int) ||| BitVec.ofInt IntKind.i64.bits ((b : Nat) : Int)).toNat = a ||| b := by
    rw [ofIntN, ofIntN]
    show (BitVec.ofNat 64 a ||| BitVec.ofNat 64 b).toNat = _
    rw [BitVec.toNat_or, BitVec.toNat_ofNat, BitVec.toNat_ofNat, Nat.mod_eq_of_lt (by omega), Nat.mod_eq_of_lt (by omega)]
  rw [e]
  exact wrapN (Nat.or_lt_two_pow (n := 63) ha hb)
theorem shlN {n i : Nat} (h : n * 2 ^ i < 9223372036854775808) (hi : i < 64) : IntKind.i64.wrap (((n : Nat) : Int) * 2 ^ min ((i : Nat) : Int).toNat IntKind.i64.bits) = ((n <<< i : Nat) : Int) := by
  have hb : IntKind.i64.bits = 64 := rfl
  rw [hb, Int.toNat_natCast, Nat.min_eq_left (by omega), Nat.shiftLeft_eq]
  have : ((n : Nat) : Int) * 2 ^ i = ((n * 2 ^ i : Nat) : Int) := by norm_cast
  rw [this]
  exact wrapN h
theorem shr_lt {n i B : Nat} (h : n < B) : n >>> i < B := Nat.lt_of_le_of_lt (Nat.shiftRight_le n i) h
theorem shrN16 {n i : Nat} (h : n < 65536) : ((n : Nat) : Int).fdiv (2 ^ min ((i : Nat) : Int).toNat IntKind.u16.bits) = ((n >>> i : Nat) : Int) := by
  have hb : IntKind.u16.bits = 16 := rfl
  rw [hb, Int.toNat_natCast, Int.fdiv_eq_ediv_of_nonneg _ (by exact_mod_cast Nat.zero_le (2 ^ min i 16)), Nat.shiftRight_eq_div_pow]
  by_cases hi : i ≤ 16
  · rw [Nat.min_eq_left hi]; norm_cast
  · rw [Nat.min_eq_right (by omega)]
    have h1 : n / 2 ^ i = 0 := Nat.div_eq_of_lt (Nat.lt_of_lt_of_le h (Nat.le_trans (by decide) (Nat.pow_le_pow_right (show 0 < 2 by omega) (show 16 ≤ i by omega))))
    rw [h1]
    omega
theorem andN16 {a b : Nat} (ha : a < 65536) (hb : b < 65536) : IntKind.u16.wrap (BitVec.ofInt IntKind.u16.bits ((a : Nat) : Int) &&& BitVec.ofInt IntKind.u16.bits ((b : Nat) : Int)).toNat = ((a &&& b : Nat) : Int) := by
  have e : (BitVec.ofInt IntKind.u16.bits ((a : Nat) : Int) &&& BitVec.ofInt IntKind.u16.bits ((b : Nat) : Int)).toNat = a &&& b := by
    show (BitVec.ofInt 16 (a : Int) &&& BitVec.ofInt 16 (b : Int)).toNat = _
    rw [BitVec.toNat_and]
    have : ∀ n : Nat, n < 65536 → (BitVec.ofInt 16 (n : Int)).toNat = n := fun n hn => by
      rw [BitVec.toNat_ofInt]; omega
    rw [this a ha, this b hb]
  rw [e]
  have h1 : a &&& b ≤ a := Nat.and_le_left
  exact wr_u16 (by omega) (by omega)
section
variable {C : Ctx} {T : AT} {H : AH} {nx : Nat} {d : Option Tmp} {ty : TypeId} {pos : String} {after : Array Edge} {g : Option (Nat × Bool)}
theorem U_eqlS {t t' : TypeId} {x y : Operand} {k : IntKind} {a : Int} (hx : ev T x = some (.int k a)) (hy : ev T y = some (.int k a)) : OpU C ⟨d, .binOp .eql t x y t', ty, pos, after, g⟩ T H nx (.bool true) [] nx := by
  have h := U_eql (C := C) (t := t) (t' := t') (d := d) (ty := ty) (pos := pos) (after := after) (g := g) (H := H) (nx := nx) hx hy
  rwa [decide_eq_true rfl] at h
theorem U_neqS {t t' : TypeId} {x y : Operand} {k : IntKind} {a : Int} (hx : ev T x = some (.int k a)) (hy : ev T y = some (.int k a)) : OpU C ⟨d, .binOp .neq t x y t', ty, pos, after, g⟩ T H nx (.bool false) [] nx := by
  have h := U_neq (C := C) (t := t) (t' := t') (d := d) (ty := ty) (pos := pos) (after := after) (g := g) (H := H) (nx := nx) hx hy
  rwa [decide_eq_false (fun k => k rfl)] at h
theorem U_eqlAS {t t' : TypeId} {x y : Operand} {cs : List AV} {ks : List IntKind} {ns : List Int} [hT : TyEq C.P t ks] (hx : ev T x = some (.agg cs)) (hy : ev T y = some (.agg cs)) (h1 : numsOf cs = some ns) (k1 : kindsA cs = ks) :
    OpU C ⟨d, .binOp .eql t x y t', ty, pos, after, g⟩ T H nx (.bool true) [] nx := by
  have h := U_eqlA (C := C) (t := t) (t' := t') (d := d) (ty := ty) (pos := pos) (after := after) (g := g) (H := H) (nx := nx) (p := True) hx hy h1 h1 k1 k1 (by simp)
  rwa [decide_eq_true trivial] at h
theorem U_neqAS {t t' : TypeId} {x y : Operand} {cs : List AV} {ks : List IntKind} {ns : List Int} [hT : TyEq C.P t ks] (hx : ev T x = some (.agg cs)) (hy : ev T y = some (.agg cs)) (h1 : numsOf cs = some ns) (k1 : kindsA cs = ks) :
    OpU C ⟨d, .binOp .neq t x y t', ty, pos, after, g⟩ T H nx (.bool false) [] nx := by
  have h := U_neqA (C := C) (t := t) (t' := t') (d := d) (ty := ty) (pos := pos) (after := after) (g := g) (H := H) (nx := nx) (p := True) hx hy h1 h1 k1 k1 (by simp)
  rwa [decide_eq_false (fun k => k trivial)] at h
/-- append of nothing. -/
theorem U_app0G {sT xT e e' z z' n : Nat} {x y : Operand} {s v : AV} [hT : TySl C.P sT e z] [hX : TySl C.P xT e' z'] (hx : ev T x = some s) (hy : ev T y = some v) (hs : ∀ ρ Φ w a, Con ρ Φ w s a → ∃ ad k, a = .slice ad n k ∧ n ≤ k) (hv : ∀ ρ Φ w a, Con ρ Φ w v a → ∃ ad k, a = .slice ad 0 k) :
    OpU C ⟨d, .call ⟨.builtin .append, #[x, y], #[sT, xT]⟩, ty, pos, after, g⟩ T H nx s [] nx :=
  OpU.of_value (by intro c; simp) fun ρ Φ a w h3 h4 => by
    obtain ⟨ad, k, e1, hnk⟩ := hs ρ Φ w _ (ev_con h3 hx)
    obtain ⟨ad', k', e4⟩ := hv ρ Φ w _ (ev_con h3 hy)
    refine ⟨a.eval x, ?_, ev_con h3 hx⟩
    have e5' : (Builtin.firstCells z 0 (.slice ad' 0 k')).run C.P w = .ok #[] w := by cases ad' <;> simp [Builtin.firstCells, loadCells, loadCellsFrom]
    have : (Builtin.append_ #[sT, xT] ty #[a.eval x, a.eval y]).run C.P w = .ok (a.eval x) w := by
      rw [e1, e4]
      unfold Builtin.append_
      cases ad with
      | none => simp only [List.getElem?_toArray, List.getElem?_cons_zero, List.getElem?_cons_succ, Sem.run_bind, run_underlying hT.un, run_underlying hX.un, Result.andThen_ok, Sem.run_pure, hT.size, Bool.false_eq_true, if_false, Builtin.lenOf, Nat.add_zero, hnk, if_true, Bool.not_false, e5']
      | some ad => simp only [List.getElem?_toArray, List.getElem?_cons_zero, List.getElem?_cons_succ, Sem.run_bind, run_underlying hT.un, run_underlying hX.un, Result.andThen_ok, Sem.run_pure, hT.size, Bool.false_eq_true, if_false, Builtin.lenOf, Nat.add_zero, hnk, if_true, Bool.not_false, e5', storeCells]
    simp only [execOp, resolve, Sem.run_bind, Sem.run_pure, Result.andThen_ok, invoke, builtin]
    simp [this]
theorem lenk_ros {cs : List AV} {n : Nat} {c : Option Nat} : ∀ (ρ : Env) Φ w y, Con ρ Φ w (.ros cs n c) y → ∃ a k, y = .slice a n k ∧ n ≤ k := fun _ _ _ _ h => by
  simp only [Con] at h; rcases h with ⟨rfl, ⟨_, h⟩, _⟩ | ⟨_, _, _, _, _, h, h2, _⟩
  · exact ⟨_, _, h, Nat.le_refl _⟩
  · exact ⟨_, _, h, h2⟩
theorem lenk_out {b n z : Nat} : ∀ (ρ : Env) Φ w y, Con ρ Φ w (.out b n z) y → ∃ a k, y = .slice a n k ∧ n ≤ k := fun _ _ _ _ h => by
  simp only [Con] at h; rcases h with ⟨rfl, h⟩ | ⟨_, _, _, _, h2, _, h⟩
  · exact ⟨_, _, h, Nat.le_refl _⟩
  · exact ⟨_, _, h, h2⟩
theorem len0_ros {cs : List AV} {n : Nat} {c : Option Nat} (hn : n = 0) : ∀ (ρ : Env) Φ w y, Con ρ Φ w (.ros cs n c) y → ∃ a k, y = .slice a 0 k := fun ρ Φ w y h => by
  obtain ⟨a, k, h1, _⟩ := lenk_ros ρ Φ w y h; subst hn; exact ⟨a, k, h1⟩
theorem U_sliceRL {t e z n l h : Nat} {c : Option Nat} {x : Operand} {lo hi : Option Operand} {cs cs' : List AV} [hT : TySl C.P t e z] (hx : ev T x = some (.ros cs n c)) (hlo : BndIs T lo 0 l) (hhi : BndIs T hi n h) (h1 : l < h) (h2 : h ≤ n) (hc : cs.drop (l * z) = cs') :
    OpU C ⟨d, .slice t x lo hi none, ty, pos, after, g⟩ T H nx (.ros cs' (h - l) (c.map (· - l))) [] nx := by
  subst hc; exact U_sliceR hx hlo hhi h1 h2
theorem dropM {α : Type} {g : α → AV} (l : List α) (k : Nat) : (l.map g).drop (k * 1) = (l.drop k).map g := by simp [List.map_drop]
theorem srcX {z : Nat} {H : AH} {cs : List AV} {n m : Nat} {c : Option Nat} (h : cs.length = n * z) (e : n = m) : srcS z H (.ros cs n c) = some (cs, m) := by
  subst e; exact srcR h
end
end Go.AE
end

section
/- Abstract states, twenty-ninth part: functions that yield a list's values, and the loops over them. -/
namespace Go.AE
open Go.RowKit

theorem belbT_of_toT {σ : Nat → Nat} {n : Nat} : ∀ {T' T : AT}, toT σ n T' T → belbT n T' = true
  | [], _, _ => rfl
  | (i, v) :: l, T, ⟨⟨_, _, _, h⟩, h2⟩ => by simp only [belbT, Bool.and_eq_true]; exact ⟨h, belbT_of_toT h2⟩
mutual
theorem belb_up {n m : Nat} (h : n ≤ m) : ∀ (v : AV), v.belb n = true → v.belb m = true
  | .bool _, d | .int _ _, d | .str _, d | .nilp, d | .nils, d | .nilm, d | .nilf, d | .nili, d | .rop _ _, d | .ros _ _ _, d | .rom _, d => by simpa only [AV.belb] using d
  | .ptr b _, d | .slice b _ _ _, d | .sliceo b _ _ _, d | .out b _ _, d | .mapl b, d | .yld b, d => by
    simp only [AV.belb] at d ⊢; have := ltOf d; rw [Nat.blt_eq]; omega
  | .agg cs, d | .tup cs, d => by simp only [AV.belb] at d ⊢; exact belbL_up h cs d
  | .fn f a b, d => by
    simp only [AV.belb, Bool.and_eq_true] at d ⊢; exact ⟨belbL_up h a d.1, belbL_up h b d.2⟩
theorem belbL_up {n m : Nat} (h : n ≤ m) : ∀ (l : List AV), belbL n l = true → belbL m l = true
  | [], _ => rfl
  | v :: l, d => by
    simp only [belbL, Bool.and_eq_true] at d ⊢; exact ⟨belb_up h v d.1, belbL_up h l d.2⟩
end
theorem belbT_up {n m : Nat} (h : n ≤ m) : ∀ (l : AT), belbT n l = true → belbT m l = true
  | [], _ => rfl
  | (i, v) :: l, d => by
    simp only [belbT, Bool.and_eq_true] at d ⊢; exact ⟨belb_up h v d.1, belbT_up h l d.2⟩
theorem belbE_up {n m : Nat} (h : n ≤ m) : ∀ (l : List (AV × AV × Nat)), belbE n l = true → belbE m l = true
  | [], _ => rfl
  | (k, v, i) :: l, d => by
    simp only [belbE, Bool.and_eq_true] at d ⊢; exact ⟨⟨belb_up h k d.1.1, belb_up h v d.1.2⟩, belbE_up h l d.2⟩
theorem belbB_up {n m : Nat} (h : n ≤ m) : ∀ (q : ABlk), q.belb n = true → q.belb m = true
  | .cells cs _, d => by simp only [ABlk.belb] at d ⊢; exact belbL_up h cs d
  | .map es _, d => by simp only [ABlk.belb] at d ⊢; exact belbE_up h es d
  | .iter v _ _ _, d => by simp only [ABlk.belb] at d ⊢; exact belb_up h v d
  | .loop _ _ T _ _ _ _ d0, d => by
    simp only [ABlk.belb, Bool.and_eq_true] at d ⊢; refine ⟨?_, belbT_up h T d.2⟩; have := ltOf d.1; rw [Nat.blt_eq]; omega
  | .defd _, _ => rfl
/-- A memory that another one shows as it is. -/
def Sees (n : Nat) (H' H : AH) : Prop := ∀ b q, gt H' b = some q → gt H b = some q ∧ b < n ∧ q.belb n = true
theorem Sees.of_to {n : Nat} {H' H : AH} (h : toH id n H' H) : Sees n H' H := fun b q e => by
  have := toH_gt h b q e; rw [ren_id_B] at this; exact this
theorem Gh_seesG {C : Ctx} {T T' : AT} {H H' : AH} {nx n : Nat} {df : List Nat} (hT : ∀ i v, lk T' i = some v → entTo id n i v T) (hH : Sees n H' H) (hk : C.k0.ble n = true) : Gh C ⟨T, H, nx, df⟩ ⟨T', H', n, df⟩ := fun ρ Φ a w h => by
  have up : ∀ b x, b < n → ρ (id b) = some x → (if b < n then ρ b else none) = some x := fun b x e1 e2 => by rw [if_pos e1]; exact e2
  have dn : ∀ b x, (if b < n then ρ b else none) = some x → b < n ∧ ρ b = some x := fun b x e => by
    split at e
    · rename_i e1; exact ⟨e1, e⟩
    · cases e
  have live : ∀ c, gt H' c ≠ none → c < n ∧ gt H c ≠ none := fun c hc => by
    cases e : gt H' c with
    | none => exact absurd e hc
    | some k => obtain ⟨e1, e2, _⟩ := hH c k e; exact ⟨e2, by rw [e1]; simp⟩
  refine ⟨fun b => if b < n then ρ b else none, Φ, fun b hb => ?_, ⟨h.tm.size, fun i v hi => ?_⟩, ⟨fun b k hb => ?_, fun b b' x x' h1 h2 h3 h4 e => ?_, fun b x h1 h2 => ?_, fun b x h1 h2 => ?_, h.mem.frz, h.mem.keep⟩, h.df, h.fz, fun b h1 => ?_, Nat.le_of_ble_eq_true hk, h.dk⟩
  · have hb : (if b < n then ρ b else none) ≠ none := hb
    show b < n
    split at hb
    · assumption
    · exact absurd rfl hb
  · obtain ⟨u, e1, e2, e3⟩ := hT i v hi
    obtain ⟨x, f1, f2⟩ := h.tm.at_ i u e1
    have f3 := e2 _ _ _ _ f1
    exact ⟨x, Con.unren (σ := id) up v e3 f3, f2⟩
  · obtain ⟨b0, b1, b2⟩ := hH b k hb
    obtain ⟨x, o, e1, e2, e3⟩ := h.mem.at_ b _ b0
    exact ⟨x, o, up b x b1 e1, e2, BlkAt.unren (σ := id) up b2 (by rw [ren_id_B]; exact e3)⟩
  · exact h.mem.inj b b' x x' (live b h1).2 (live b' h2).2 (dn b x h3).2 (dn b' x' h4).2 e
  · exact h.mem.free _ x (live b h1).2 (dn b x h2).2
  · exact h.mem.own _ x (live b h1).2 (dn b x h2).2
  · show (if b < n then ρ b else none) = _
    rw [if_pos (Nat.lt_of_lt_of_le h1 (Nat.le_of_ble_eq_true hk))]; exact h.base b h1

theorem Gh_sees {C : Ctx} {T T' : AT} {H H' : AH} {nx n : Nat} {df : List Nat} (hT : toT id n T' T) (hH : Sees n H' H) (hk : C.k0.ble n = true) : Gh C ⟨T, H, nx, df⟩ ⟨T', H', n, df⟩ := Gh_seesG (fun i v e => toT_lk hT i v e) hH hk
theorem gt_appS {b : Nat} {q : ABlk} (L : AH) : ∀ {H : AH}, gt H b = some q → gt (H ++ L) b = some q
  | [], h => by cases h
  | (c, k) :: H, h => by
    rw [List.cons_append, gt_cons]; rw [gt_cons] at h
    split at h
    · rename_i e; rw [if_pos e]; exact h
    · rename_i e; rw [if_neg e]; exact gt_appS L h
/-- A function that yields a list's values, one after another, until it is told not to go on. -/
structure Rnds (P : Program) (xs : List AV) (n m : Nat) (Hs : Nat → AH) (He : AH) (j : Code) (Tr : AT) (ntr : Nat) (ps : Array Tmp) (assign body : Code) : Prop where
  le : m ≤ xs.length
  bT : belbT n Tr = true
  bH : ∀ i, i ≤ m → ∀ b q, gt (Hs i) b = some q → b < n ∧ q.belb n = true
  bE : ∀ b q, gt He b = some q → b < n ∧ q.belb n = true
  sz : 1 = ps.toList.length
  lt : ps.toList.all (·.blt ntr) = true
  full : ∀ i x, i < m → xs[i]? = some x → ∀ (C : Ctx), C.P = P → ∀ N, (∀ H2 nx2, Sees n (Hs (i + 1)) H2 → N true none H2 nx2) →
      Round C (n + 1) none Tr ntr ps assign body n N (zipT ps.toList [x] Tr) ((n + 1, some (.loop .ready none Tr ntr ps assign body n)) :: Hs i) (n + 2)
  stop : ∀ x, xs[m]? = some x → ∀ (C : Ctx), C.P = P → ∀ N, (∀ H2 nx2, Sees n He H2 → N false (some j) H2 nx2) →
      Round C (n + 1) none Tr ntr ps assign body n N (zipT ps.toList [x] Tr) ((n + 1, some (.loop .ready none Tr ntr ps assign body n)) :: Hs m) (n + 2)
/-- The loop's row, and what is behind it. -/
abbrev lpR (n : Nat) (Tr : AT) (ntr : Nat) (ps : Array Tmp) (assign body : Code) (H : AH) : AH := (n + 1, some (.loop .ready none Tr ntr ps assign body n)) :: H
abbrev lpD (n : Nat) (j : Code) (Tr : AT) (ntr : Nat) (ps : Array Tmp) (assign body : Code) (H : AH) : AH := (n + 1, some (.loop .done (some j) Tr ntr ps assign body n)) :: H
def IterP (P : Program) (f : FuncId) (fi ca xs : List AV) : Prop :=
  ∀ (n m : Nat) (Hs : Nat → AH) (He : AH) (j : Code) (Tr : AT) (ntr : Nat) (ps : Array Tmp) (assign body : Code), Rnds P xs n m Hs He j Tr ntr ps assign body →
    MutP P f (fi ++ [.yld (n + 1)] ++ ca) (lpR n Tr ntr ps assign body (Hs 0)) (n + 2) (.tup [])
      (if m < xs.length then lpD n j Tr ntr ps assign body He else lpR n Tr ntr ps assign body (Hs m)) (n + 2)

section
variable {C : Ctx} {T T' : AT} {H : AH} {nx n : Nat} {c : Code} {Q : Exit → St → Prop}
theorem sees_lp {n : Nat} {Hs H2 : AH} {q : ABlk} (hq : q.belb (n + 2) = true) (h : Sees n Hs H2) : Sees (n + 2) ((n + 1, some q) :: Hs) ((n + 1, some q) :: H2) := fun b k e => by
  rw [gt_cons] at e ⊢
  by_cases eb : n + 1 = b
  · rw [if_pos eb] at e ⊢; cases e; exact ⟨rfl, by omega, hq⟩
  · rw [if_neg eb] at e ⊢
    obtain ⟨h1, h2, h3⟩ := h b k e
    exact ⟨h1, by omega, belbB_up (by omega) _ h3⟩
theorem gt_lp {n : Nat} {H : AH} {q : ABlk} : gt ((n + 1, some q) :: H) (n + 1) = some q := by rw [gt_cons, if_pos rfl]
theorem Rnds.bL {P : Program} {xs : List AV} {n m : Nat} {Hs : Nat → AH} {He : AH} {j : Code} {Tr : AT} {ntr : Nat} {ps : Array Tmp} {assign body : Code} (R : Rnds P xs n m Hs He j Tr ntr ps assign body) (st : LoopState) (p : Option Code) : (ABlk.loop st p Tr ntr ps assign body n).belb (n + 2) = true := by
  simp only [ABlk.belb, Bool.and_eq_true]; exact ⟨by rw [Nat.blt_eq]; omega, belbT_up (by omega) _ R.bT⟩
/-- A call of yield. -/
theorem RyieldI {P : Program} {xs : List AV} {m : Nat} {Hs : Nat → AH} {He : AH} {j : Code} {Tr : AT} {ntr : Nat} {ps : Array Tmp} {assign body : Code} (R : Rnds P xs n m Hs He j Tr ntr ps assign body) {ops : Array Oper} {i : Nat} {K : St → Prop} {o : Oper} {x : Operand} {args : Array Operand} {ts : Array TypeId} {v : AV} {t k : Nat} {c : Bool} (T1 T2 : AT)
    (ho : nth ops.toList i = some o) (hg : wantedA ops.toList T o = some c) (hc : c = true) (hop : o.op = .call ⟨.value x, args, ts⟩) (hx : ev T x = some (.yld (n + 1))) (hv : evL T args.toList = some [v]) (hd : o.dst = some t) (ht : t.blt C.nt = true) (hC : C.P = P) (hk0 : C.k0.ble (n + 2) = true)
    (hxs : xs[k]? = some v) (hkm : k ≤ m) (h1 : toT id (n + 2) T1 ((t, .bool true) :: T)) (h2 : toT id (n + 2) T2 ((t, .bool false) :: T))
    (kt : k < m → Reg C ops (i + 1) K ⟨T1, lpR n Tr ntr ps assign body (Hs (k + 1)), n + 2, []⟩) (kf : k = m → m < xs.length → Reg C ops (i + 1) K ⟨T2, lpD n j Tr ntr ps assign body He, n + 2, []⟩) :
    Reg C ops i K ⟨T, lpR n Tr ntr ps assign body (Hs k), n + 2, []⟩ := by
  refine Ryield (l := n + 1) ho hg hc hop hx hv gt_lp (by simpa using R.sz) R.lt hd ht ?_
  by_cases e : k < m
  · exact R.full k v e hxs C hC _ fun H2 nx2 hs => Reg_gh (Gh_sees h1 (sees_lp (R.bL _ _) hs) hk0) (kt e)
  · have e : k = m := by omega
    subst e
    exact R.stop v hxs C hC _ fun H2 nx2 hs => Reg_gh (Gh_sees h2 (sees_lp (R.bL _ _) hs) hk0) (kf rfl (List.getElem?_eq_some_iff.1 hxs).1)
/-- A loop's head, in a function that yields. -/
theorem Rnds.sees {P : Program} {xs : List AV} {m : Nat} {Hs : Nat → AH} {He : AH} {j : Code} {Tr : AT} {ntr : Nat} {ps : Array Tmp} {assign body : Code} (R : Rnds P xs n m Hs He j Tr ntr ps assign body) {i : Nat} (hi : i ≤ m) : Sees (n + 2) (lpR n Tr ntr ps assign body (Hs i)) (lpR n Tr ntr ps assign body (Hs i)) :=
  sees_lp (R.bL _ _) fun b q e => ⟨e, R.bH i hi b q e⟩
theorem Rnds.seesD {P : Program} {xs : List AV} {m : Nat} {Hs : Nat → AH} {He : AH} {j : Code} {Tr : AT} {ntr : Nat} {ps : Array Tmp} {assign body : Code} (R : Rnds P xs n m Hs He j Tr ntr ps assign body) : Sees (n + 2) (lpD n j Tr ntr ps assign body He) (lpD n j Tr ntr ps assign body He) :=
  sees_lp (R.bL _ _) fun b q e => ⟨e, R.bE b q e⟩
theorem LoopI {H' : AH} {Q : Exit → St → Prop} {c : Code} (h : c.tag = 6) (I : Nat → St → Prop) {k : Nat} (h0 : I k ⟨T', H', n + 2, []⟩) (hT : toT id (n + 2) T' T) (hs : Sees (n + 2) H' H) (hk : C.k0.ble (n + 2) = true) (round : ∀ n s, I n s → WpA C c.l (thenQ (againP C I n) Q) s) : WpA C c Q ⟨T, H, nx, []⟩ :=
  W_gh (Gh_sees hT hs hk) (Wloop h I h0 round)
theorem againI {H' : AH} {I : Nat → St → Prop} {k : Nat} (q : Nat) (hI : I q ⟨T', H', n + 2, []⟩) (hm : q < k) (hT : toT id (n + 2) T' T) (hs : Sees (n + 2) H' H) (hk : C.k0.ble (n + 2) = true) : againP C I k ⟨T, H, nx, []⟩ :=
  ⟨_, q, Gh_sees hT hs hk, hm, hI⟩
/-- The end of such a function. -/
theorem retI {H1 H2 : AH} (hs : Sees (n + 2) H1 H) (e : H1 = H2) (hk : C.k0.ble (n + 2) = true) : retMQ C [] (.tup []) H2 (n + 2) .ret ⟨T, H, nx, []⟩ :=
  ⟨[], [], e ▸ Gh_sees trivial hs hk, rfl, rfl⟩
theorem retIn {H1 H2 : AH} (hs : Sees (n + 2) H1 H) (e : H1 = H2) (hk : C.k0.ble (n + 2) = true) : retMQ C [] (.tup []) H2 (n + 2) .normal ⟨T, H, nx, []⟩ :=
  ⟨[], [], e ▸ Gh_sees trivial hs hk, rfl, rfl⟩
/-- A loop over a function that yields a list's values, to the end or to one. -/
theorem W_rangeX (h : c.tag = 7) (hro : C.round = none) {f : FuncId} {fi ca xs : List AV} [hf : FnOk C.P f] (hI : IterP C.P f fi ca xs) (m : Nat) (Hs : Nat → AH) (He : AH) (j : Code)
    (hT : toT id n T' T) (hH : Sees n (Hs 0) H) (hk : C.k0.ble n = true) (hg : ev T' c.c = some (.fn f fi ca)) (hbf : (belbL n fi && belbL n ca) = true) (hsz : 1 = c.ps.toList.length) (hps : c.ps.toList.all (·.blt C.nt) = true)
    (hm : m ≤ xs.length) (hB : ∀ i, i ≤ m → ∀ b q, gt (Hs i) b = some q → b < n ∧ q.belb n = true) (hBe : ∀ b q, gt He b = some q → b < n ∧ q.belb n = true)
    (hr : ∀ i x, i < m → xs[i]? = some x → ∀ (C' : Ctx), C'.P = C.P → ∀ N, (∀ H2 nx2, Sees n (Hs (i + 1)) H2 → N true none H2 nx2) →
      Round C' (n + 1) none T' C.nt c.ps c.l c.r n N (zipT c.ps.toList [x] T') ((n + 1, some (.loop .ready none T' C.nt c.ps c.l c.r n)) :: Hs i) (n + 2))
    (hs : ∀ x, xs[m]? = some x → ∀ (C' : Ctx), C'.P = C.P → ∀ N, (∀ H2 nx2, Sees n He H2 → N false (some j) H2 nx2) →
      Round C' (n + 1) none T' C.nt c.ps c.l c.r n N (zipT c.ps.toList [x] T') ((n + 1, some (.loop .ready none T' C.nt c.ps c.l c.r n)) :: Hs m) (n + 2))
    (kn : m = xs.length → Q .normal ⟨T', Hs m, n, []⟩) (kj : m < xs.length → WpA C j Q ⟨T', He, n, []⟩) : WpA C c Q ⟨T, H, nx, []⟩ := by
  suffices hs : WpA C c (fun e s => Q e s ∨ (e = .normal ∧ ∃ sj, Gh C s sj ∧ Q .normal sj)) ⟨T, H, nx, []⟩ by
    intro ρ Φ a w hc
    refine wpIn_mono (hs ρ Φ a w hc) ?_
    rintro e a' w' ⟨s', ρ', Φ', hq, hc'⟩
    rcases hq with hq | ⟨rfl, sj, hg, hq⟩
    · exact ⟨s', ρ', Φ', hq, hc'⟩
    · obtain ⟨ρ2, Φ2, h2⟩ := hg ρ' Φ' a' w' hc'; exact ⟨sj, ρ2, Φ2, hq, h2⟩
  refine W_gh (Gh_sees hT hH hk) ?_
  have hbT := belbT_of_toT hT
  have hbl : ∀ (st : LoopState) (p : Option Code), (ABlk.loop st p T' C.nt c.ps c.l c.r n).belb (n + 2) = true := fun st p => by
    simp only [ABlk.belb, Bool.and_eq_true]; exact ⟨by rw [Nat.blt_eq]; omega, belbT_up (by omega) _ hbT⟩
  have hP := hI n m Hs He j T' C.nt c.ps c.l c.r ⟨hm, hbT, hB, hBe, hsz, hps, hr, hs⟩
  have hbf' : belbL n fi = true ∧ belbL n ca = true := by simpa only [Bool.and_eq_true] using hbf
  have happ : ∀ (k : Nat) (a b : List AV), belbL k a = true → belbL k b = true → belbL k (a ++ b) = true := fun k a => by
    induction a with
    | nil => intro b _ h; exact h
    | cons v a ih => intro b h1 h2; simp only [belbL, List.cons_append, Bool.and_eq_true] at h1 ⊢; exact ⟨h1.1, ih b h1.2 h2⟩
  have hba : belbL (n + 2) (fi ++ [.yld (n + 1)] ++ ca) = true := happ _ _ _ (happ _ _ _ (belbL_up (by omega) _ hbf'.1) (by simp only [belbL, AV.belb, Bool.and_true]; rw [Nat.blt_eq]; omega)) (belbL_up (by omega) _ hbf'.2)
  have hX : ∀ b q, gt ((n + 1, some (ABlk.loop .ready none T' C.nt c.ps c.l c.r n)) :: Hs 0) b = some q → gt ((n + 1, some (.loop .ready none T' C.nt c.ps c.l c.r n)) :: Hs 0) (id b) = some (q.ren id) ∧ b < n + 2 ∧ q.belb (n + 2) = true := fun b q e => by
    rw [ren_id_B]
    refine ⟨e, ?_⟩
    rw [gt_cons] at e
    split at e
    · rename_i e1; cases e; exact ⟨by omega, hbl _ _⟩
    · obtain ⟨h1, h2⟩ := hB 0 (Nat.zero_le _) b q e; exact ⟨by omega, belbB_up (by omega) _ h2⟩
  have hsig : sigM id (n + 2) (n + 1 + 1) = id := by
    funext b
    by_cases hb : b < n + 2
    · rw [sigM_lt hb]
    · rw [sigM_ge (by omega)]; show _ = b; omega
  have hren : ∀ (L : AH), renH id L = L := fun L => by
    induction L with
    | nil => rfl
    | cons a L ih => obtain ⟨b, k⟩ := a; simp only [renH, ih, id]; cases k with | none => rfl | some k => simp only [Option.map_some, ren_id_B]
  by_cases hlt : m < xs.length
  · rw [if_pos hlt] at hP
    refine W_range h hro (fi := fi) (ca := ca) (f := f) hg id hP ?_ hba hX (fun _ _ _ _ e => e) (fun b hb => hb) (st := .done) (p := some j) (Tl := T') (ntl := C.nt) (dl := n) (psl := c.ps) (al := c.l) (bl := c.r) ?_ (by simp) ?_
    · rw [ren_id_L]
    · rw [hsig, hren, List.append_assoc]; exact gt_lp
    · rw [hsig, hren]
      refine W_gh (Gh_seesG (n := n) (T' := T') (H' := He) (fun i v e => ⟨v, e, by rw [ren_id_v]; exact le_refl _, belbT_lk hbT i v e⟩) ?_ hk) ((kj hlt).mono fun _ _ h => .inl h)
      · intro b q e
        obtain ⟨h1, h2⟩ := hBe b q e
        refine ⟨?_, h1, h2⟩
        rw [gt_cons, if_neg (by omega), List.append_assoc, List.cons_append, gt_cons, if_neg (by omega)]
        exact gt_appS _ e
  · rw [if_neg hlt] at hP
    refine W_range h hro (fi := fi) (ca := ca) (f := f) hg id hP ?_ hba hX (fun _ _ _ _ e => e) (fun b hb => hb) (st := .ready) (p := none) (Tl := T') (ntl := C.nt) (dl := n) (psl := c.ps) (al := c.l) (bl := c.r) ?_ (by simp) ?_
    · rw [ren_id_L]
    · rw [hsig, hren, List.append_assoc]; exact gt_lp
    · rw [hsig, hren]
      refine .inr ⟨rfl, _, ?_, kn (by omega)⟩
      refine Gh_seesG (n := n) (T' := T') (H' := Hs m) (fun i v e => ⟨v, e, by rw [ren_id_v]; exact le_refl _, belbT_lk hbT i v e⟩) ?_ hk
      intro b q e
      obtain ⟨h1, h2⟩ := hB m (Nat.le_refl _) b q e
      refine ⟨?_, h1, h2⟩
      rw [gt_cons, if_neg (by omega), List.append_assoc, List.cons_append, gt_cons, if_neg (by omega)]
      exact gt_appS _ e

/-- A loop over all values. -/
theorem W_rangeI (h : c.tag = 7) (hro : C.round = none) {f : FuncId} {fi ca xs : List AV} [hf : FnOk C.P f] (hI : IterP C.P f fi ca xs) (Hs : Nat → AH)
    (hT : toT id n T' T) (hH : toH id n (Hs 0) H) (hk : C.k0.ble n = true) (hg : ev T' c.c = some (.fn f fi ca)) (hbf : (belbL n fi && belbL n ca) = true) (hsz : 1 = c.ps.toList.length) (hps : c.ps.toList.all (·.blt C.nt) = true)
    (hB : ∀ i, toH id n (Hs i) (Hs i))
    (hr : ∀ i x, xs[i]? = some x → ∀ (C' : Ctx), C'.P = C.P → ∀ N, (∀ H2 nx2, toH id n (Hs (i + 1)) H2 → N true none H2 nx2) →
      Round C' (n + 1) none T' C.nt c.ps c.l c.r n N (zipT c.ps.toList [x] T') ((n + 1, some (.loop .ready none T' C.nt c.ps c.l c.r n)) :: Hs i) (n + 2))
    (kn : Q .normal ⟨T', Hs xs.length, n, []⟩) : WpA C c Q ⟨T, H, nx, []⟩ :=
  W_rangeX h hro hI xs.length Hs [] .ret hT (.of_to hH) hk hg hbf hsz hps (Nat.le_refl _) (fun i _ b q e => (toH_gt (hB i) b q e).2) (fun b q e => by cases e)
    (fun i x _ hx C' hC N hN => hr i x hx C' hC N fun H2 nx2 h2 => hN H2 nx2 (.of_to h2)) (fun x hx => by simp at hx) (fun _ => kn) (fun h => absurd h (Nat.lt_irrefl _))
/-- .. and one that is left at one of them. -/
theorem W_rangeS (h : c.tag = 7) (hro : C.round = none) {f : FuncId} {fi ca xs : List AV} [hf : FnOk C.P f] (hI : IterP C.P f fi ca xs) (m : Nat) (hm : m < xs.length) (Hs : Nat → AH) (He : AH) (j : Code)
    (hT : toT id n T' T) (hH : toH id n (Hs 0) H) (hk : C.k0.ble n = true) (hg : ev T' c.c = some (.fn f fi ca)) (hbf : (belbL n fi && belbL n ca) = true) (hsz : 1 = c.ps.toList.length) (hps : c.ps.toList.all (·.blt C.nt) = true)
    (hB : ∀ i, toH id n (Hs i) (Hs i)) (hBe : toH id n He He)
    (hr : ∀ i x, i < m → xs[i]? = some x → ∀ (C' : Ctx), C'.P = C.P → ∀ N, (∀ H2 nx2, toH id n (Hs (i + 1)) H2 → N true none H2 nx2) →
      Round C' (n + 1) none T' C.nt c.ps c.l c.r n N (zipT c.ps.toList [x] T') ((n + 1, some (.loop .ready none T' C.nt c.ps c.l c.r n)) :: Hs i) (n + 2))
    (hs : ∀ x, xs[m]? = some x → ∀ (C' : Ctx), C'.P = C.P → ∀ N, (∀ H2 nx2, toH id n He H2 → N false (some j) H2 nx2) →
      Round C' (n + 1) none T' C.nt c.ps c.l c.r n N (zipT c.ps.toList [x] T') ((n + 1, some (.loop .ready none T' C.nt c.ps c.l c.r n)) :: Hs m) (n + 2))
    (kj : WpA C j Q ⟨T', He, n, []⟩) : WpA C c Q ⟨T, H, nx, []⟩ :=
  W_rangeX h hro hI m Hs He j hT (.of_to hH) hk hg hbf hsz hps (Nat.le_of_lt hm) (fun i _ b q e => (toH_gt (hB i) b q e).2) (fun b q e => (toH_gt hBe b q e).2)
    (fun i x h1 hx C' hC N hN => hr i x h1 hx C' hC N fun H2 nx2 h2 => hN H2 nx2 (.of_to h2)) (fun x hx C' hC N hN => hs x hx C' hC N fun H2 nx2 h2 => hN H2 nx2 (.of_to h2)) (fun h => absurd h (by omega)) (fun _ => kj)
end
end Go.AE
end
