import Derived.Handed
import Derived.ProofKit
import Derived.OpenShut
import Derived.Carry
import Derived.JoinedOf
import Derived.Test.YthlolelbmhfdbaaProg
import Derived.Test.YthlolelbmhfdbaaM1
set_option linter.all false
section
namespace Go.AE
open Go.RowKit
section
variable {C : Ctx} {T : AT} {H : AH} {nx : Nat} {df : List Nat} {c : Code} {Q : Exit → St → Prop}
theorem Conc.newB {ρ : Env} {Φ : Fz} {a : Act} {w : World} {k : ABlk} {o : Obj} (h : Conc C ⟨T, H, nx, df⟩ ρ Φ a w) (base room : Nat) (hk : BlkAt ρ Φ w (w.heap.size, base, room) k o) :
    Conc C ⟨T, (nx, some k) :: H, nx + 1, df⟩ (ρ.upd nx (w.heap.size, base, room)) Φ a (w.alloc o) := by
  have hρ : ρ nx = none := by
    cases e : ρ nx with
    | none => rfl
    | some x => have : nx < nx := h.dom nx (by rw [e]; simp); omega
  have hp := Post.new h.mem hρ base room hk
  rw [← gt_upG] at hp
  exact Conc.step (s := ⟨T, H, nx, df⟩) (ups := [(nx, some k)]) (v := .tup []) (x := undef) (d := none) h (hp.more (by simp)) (by simp [Con, undef, ConL]) rfl (Nat.le_succ _)
theorem Conc.newD {ρ : Env} {Φ : Fz} {a : Act} {w : World} (h : Conc C ⟨T, H, nx, df⟩ ρ Φ a w) : Conc C ⟨T, H, nx + 1, df⟩ (ρ.upd nx (w.heap.size, 0, 0)) Φ { a with defers := { target := .collected w.heap.size, args := #[] } :: a.defers } (w.alloc dObj) := by
  have hρ : ρ nx = none := by
    cases e : ρ nx with
    | none => rfl
    | some x => have : nx < nx := h.dom nx (by rw [e]; simp); omega
  have hle := Env.le_upd (w.heap.size, 0, 0) hρ
  have hb : Below w.heap.size w (w.alloc dObj) := (Below.refl _ _).alloc (Nat.le_refl _) dObj
  have hst : ∀ r, Φ r → (w.alloc dObj).heap[r]? = w.heap[r]? := fun r hr => hb.block r (h.mem.frz r hr)
  have lv : ∀ b x, gt H b ≠ none → (ρ.upd nx (w.heap.size, 0, 0)) b = some x → ρ b = some x := fun b x h1 h2 => by
    by_cases e : b = nx
    · subst e
      cases e1 : gt H b with
      | none => exact absurd e1 h1
      | some k => obtain ⟨y, o, e2, _⟩ := h.mem.at_ b k e1; rw [hρ] at e2; cases e2
    · rw [Env.upd_ne _ _ e] at h2; exact h2
  refine ⟨fun b hb' => ?_, h.tm.mono hle Φ.le_refl hst, ⟨fun b k hk => ?_, fun b b' x x' h1 h2 h3 h4 => h.mem.inj b b' x x' h1 h2 (lv b x h1 h3) (lv b' x' h2 h4), fun b x h1 h2 => h.mem.free b x h1 (lv b x h1 h2), fun b x h1 h2 => h.mem.own b x h1 (lv b x h1 h2), fun r hr => ?_, h.mem.keep.trans (Keeps.of_below hb _)⟩, h.df.cons h.mem.keep.size h.mem.frz, h.fz, fun b h1 => ?_, Nat.le_succ_of_le h.kn, h.dk.trans (.below hb fun _ h => .inl h)⟩
  · by_cases e : b = nx
    · subst e; exact Nat.lt_succ_self _
    · rw [Env.upd_ne _ _ e] at hb'; exact Nat.lt_succ_of_lt (h.dom b hb')
  · obtain ⟨x, o, h1, h2, h3⟩ := h.mem.at_ b k hk
    exact ⟨x, o, hle _ _ h1, (hb.block _ (Array.getElem?_eq_some_iff.1 h2).1).trans h2, h3.mono hle Φ.le_refl hst⟩
  · have := h.mem.frz r hr; simp; omega
  · rw [Env.upd_ne _ _ (by have := h.kn; simp only at this; omega)]; exact h.base b h1
def jumpQ (C : Ctx) (Q : Exit → St → Prop) (s : St) : Option Code → Prop
  | none => Q .normal s
  | some j => WpA C j Q s
theorem W_range (h : c.tag = 7) (hro : C.round = none) {f : FuncId} {fi ca a0 : List AV} {H0 H1 : AH} {k n1 : Nat} {res : AV} [hf : FnOk C.P f] (hg : ev T c.c = some (.fn f fi ca)) (τ : Nat → Nat) (hP : MutP C.P f a0 H0 k res H1 n1)
    (ha : fi ++ [.yld (nx + 1)] ++ ca = renL τ a0) (hba : belbL k a0 = true) (hX : ∀ b q, gt H0 b = some q → gt ((nx + 1, some (.loop .ready none T C.nt c.ps c.l c.r nx)) :: H) (τ b) = some (q.ren τ) ∧ b < k ∧ q.belb k = true)
    (hi : ∀ b b', b < k → b' < k → τ b = τ b' → b = b') (hlt : ∀ b, b < k → τ b < nx + 1 + 1)
    {st : LoopState} {p : Option Code} {Tl : AT} {ntl dl : Nat} {psl : Array Tmp} {al bl : Code}
    (hend : gt (renH (sigM τ k (nx + 1 + 1)) H1 ++ deadH (sigM τ k (nx + 1 + 1)) H0 ++ ((nx + 1, some (.loop .ready none T C.nt c.ps c.l c.r nx)) :: H)) (nx + 1) = some (.loop st p Tl ntl psl al bl dl)) (hst : st ≠ .busy)
    (kk : jumpQ C Q ⟨T, (nx + 1, some (.loop .exhausted p Tl ntl psl al bl dl)) :: (renH (sigM τ k (nx + 1 + 1)) H1 ++ deadH (sigM τ k (nx + 1 + 1)) H0 ++ ((nx + 1, some (.loop .ready none T C.nt c.ps c.l c.r nx)) :: H)), nx + 1 + 1 + (n1 - k), df⟩ p) :
    WpA C c Q ⟨T, H, nx, df⟩ := by
  suffices hs : WpA C (.rangeFunc c.c c.ps c.l c.r) Q ⟨T, H, nx, df⟩ by rw [tag_range h]; exact hs
  intro ρ Φ a w hc
  have e0 := ev_con hc.tm hg
  simp only [Con] at e0
  obtain ⟨xs, ys, e1, e2, e3⟩ := e0
  refine wpIn_rangeFunc fun fn _ => ?_
  -- the two blocks
  have h1 : Conc C ⟨T, H, nx + 1, df⟩ _ Φ { a with defers := { target := .collected w.heap.size, args := #[] } :: a.defers } (w.alloc dObj) := hc.newD
  have hnx : (ρ.upd nx (w.heap.size, 0, 0)) nx = some (w.heap.size, 0, 0) := Env.upd_same _ _ _
  have h2 : Conc C ⟨T, (nx + 1, some (.loop .ready none T C.nt c.ps c.l c.r nx)) :: H, nx + 1 + 1, df⟩ _ Φ { a with defers := { target := .collected w.heap.size, args := #[] } :: a.defers } _ :=
    Conc.newB (k := .loop .ready none T C.nt c.ps c.l c.r nx) (o := .loop { state := .ready, pending := none, fn, tmps := a.tmps, params := c.ps, assign := c.l, body := c.r, defers := w.heap.size }) h1 0 0
      ⟨fn, a.tmps, _, hnx, h1.tm, rfl⟩
  have hsz : (w.alloc (.deferred (some []))).heap.size = w.heap.size + 1 := World.size_alloc w _
  rw [hsz] at h2
  have hnx1 : ((ρ.upd nx (w.heap.size, 0, 0)).upd (nx + 1) (w.heap.size + 1, 0, 0)) nx = some (w.heap.size, 0, 0) := by rw [Env.upd_ne _ _ (by omega)]; exact hnx
  have hnx2 : ((ρ.upd nx (w.heap.size, 0, 0)).upd (nx + 1) (w.heap.size + 1, 0, 0)) (nx + 1) = some (w.heap.size + 1, 0, 0) := Env.upd_same _ _ _
  have h3 : Conc C ⟨T, (nx + 1, some (.loop .ready none T C.nt c.ps c.l c.r nx)) :: H, nx + 1 + 1, df⟩ _ Φ { a with defers := [{ target := .collected w.heap.size, args := #[] }] ++ a.defers } _ := h2
  have hargs : ConL ((ρ.upd nx (w.heap.size, 0, 0)).upd (nx + 1) (w.heap.size + 1, 0, 0)) Φ ((w.alloc (.deferred (some []))).alloc (.loop { state := .ready, pending := none, fn, tmps := a.tmps, params := c.ps, assign := c.l, body := c.r, defers := w.heap.size })) (fi ++ [.yld (nx + 1)] ++ ca) (xs ++ [.func (.yield (w.heap.size + 1)) #[] #[]] ++ ys) := by
    have e4 := ev_con h3.tm hg
    simp only [Con] at e4
    obtain ⟨xs', ys', f1, f2, f3⟩ := e4
    have f3' : a.eval c.c = .func (.func f) xs'.toArray ys'.toArray := f3
    rw [e3] at f3'
    have g1 : xs = xs' := by have := Value.func.inj f3'; simpa using this.2.1
    have g2 : ys = ys' := by have := Value.func.inj f3'; simpa using this.2.2
    subst g1; subst g2
    exact conL_append (conL_append f1 (conL_cons (by simp only [Con]; exact ⟨_, hnx2, rfl⟩) conL_nil)) f2
  have hcall := callM τ hP ha hba hX hi hlt _ Φ _ (fun b g1 g2 => h3.fresh (n := nx + 1 + 1 + (n1 - k)) b g1 g2) h3.mem hargs
  generalize hW : (w.alloc (.deferred (some []))).alloc (.loop { state := .ready, pending := none, fn, tmps := a.tmps, params := c.ps, assign := c.l, body := c.r, defers := w.heap.size }) = W2 at hcall h3
  refine ⟨w.heap.size + 1, [{ target := .collected w.heap.size, args := #[] }], W2, { target := .fn (.func f) ys.toArray, args := xs.toArray ++ #[Value.func (.yield (w.heap.size + 1)) #[] #[]] }, W2, f, (xs ++ [Value.func (.yield (w.heap.size + 1)) #[] #[]] ++ ys).toArray, W2, ?_, ?_, fun _ _ => trivial, ?_, fun hh => by simp [Ctx.F, Fence.wide] at hh, ?_⟩
  · rw [show C.F.round = none from hro, ← hW]; exact run_enterLoop_outer fn a.tmps c.ps c.l c.r
  · simp only [resolve, e3, Deferred.ofValue, Sem.run_pure]
    simp [Act.eval]
  · simp only [invoke]
    rw [hf.run]
    simp
  · refine (callsIn_of 0 hcall).mono ?_
    rintro e w' ⟨y, ρ', Φ', rfl, hp, _⟩
    have h4 := Conc.step (s := ⟨T, (nx + 1, some (.loop .ready none T C.nt c.ps c.l c.r nx)) :: H, nx + 1 + 1, df⟩) (v := .tup []) (x := undef) (d := none) h3 hp (by simp [Con, undef, ConL]) rfl (Nat.le_add_right _ _)
    obtain ⟨z, ob, g1, g2, fn', tmps', zz, g3, g4, rfl⟩ := h4.mem.at_ (nx + 1) _ hend
    have gz : z = (w.heap.size + 1, 0, 0) := by
      have := hp.le _ _ hnx2
      rw [g1] at this; cases this; rfl
    subst gz
    have h5 : Conc C ⟨T, (nx + 1, some (.loop .exhausted p Tl ntl psl al bl dl)) :: (renH (sigM τ k (nx + 1 + 1)) H1 ++ deadH (sigM τ k (nx + 1 + 1)) H0 ++ ((nx + 1, some (.loop .ready none T C.nt c.ps c.l c.r nx)) :: H)), nx + 1 + 1 + (n1 - k), df⟩ _ _ _ _ :=
      Conc.setB (T := T) h4 hend g1 (oneNew_put g2) ⟨fn', tmps', zz, g3, g4, rfl⟩
    refine ⟨p, _, run_endLoop (P := C.P) g2 hst, ?_⟩
    cases p with
    | none => exact ⟨_, _, _, kk, h5⟩
    | some j => exact kk _ _ _ _ h5
end
end Go.AE
end

section
namespace Go.AE
open Go.RowKit
inductive FindK (key : AV) : List (AV × AV × Nat) → Option (Nat × AV) → Prop where
  | nil : FindK key [] none
  | hit (v : AV) (n : Nat) (es : List (AV × AV × Nat)) : FindK key ((key, v, n) :: es) (some (0, v))
  | miss0 {k v : AV} {n : Nat} {es : List (AV × AV × Nat)} (h : k ≠ key) (r : FindK key es none) : FindK key ((k, v, n) :: es) none
  | miss {k v : AV} {n i : Nat} {u : AV} {es : List (AV × AV × Nat)} (h : k ≠ key) (r : FindK key es (some (i, u))) : FindK key ((k, v, n) :: es) (some (i + 1, u))
def FoundAs (ρ : Env) (Φ : Fz) (w : World) : Option (Nat × AV) → Option (Nat × Value) → Prop
  | none, none => True
  | some (i, v), some (j, y) => i = j ∧ Con ρ Φ w v y
  | _, _ => False
def keysOk (ok : AV → Bool) : List (AV × AV × Nat) → Bool
  | [] => true
  | (k, _, _) :: es => ok k && keysOk ok es
class TyKey (P : Program) (kt : TypeId) (ok : outParam (AV → Bool)) : Prop where
  check : ∀ (e : Bool) (v : AV) (x : Value) ρ Φ w, ok v = true → Con ρ Φ w v x → (Instr.checkKey e 10000 kt x).run P w = .ok () w
  find : ∀ ρ Φ w (key : AV) (x : Value) (es : List (AV × AV × Nat)) (l : List MapEntry) r, ok key = true → keysOk ok es = true → Con ρ Φ w key x → ConE ρ Φ w es l → FindK key es r → ∃ r', (Instr.findKey kt x l).run P w = .ok r' w ∧ FoundAs ρ Φ w r r'
  same : ∀ (v : AV) (x y : Value) ρ Φ w, ok v = true → Con ρ Φ w v x → Con ρ Φ w v y → (Instr.keyThatStays x y).run P w = .ok y w
class TyMap (P : Program) (t : TypeId) (kt et : outParam TypeId) : Prop where
  un : P.underlying t = some (.map kt et)
def okFlat (ks : List IntKind) : AV → Bool
  | .agg cs => match numsOf cs with
    | some _ => decide (kindsA cs = ks)
    | none => false
  | _ => false
theorem sameBits_int {n : Nat} {k : IntKind} {a : Int} : Instr.sameBits n (.int k a) (.int k a) = true := by simp [Instr.sameBits]
section
variable {P : Program}
def ChkS (P : Program) (d : Nat) (t : TypeId) (ks : List IntKind) : Prop :=
  ∀ (w : World) (X : Array Value) (off : Nat) (ns : List Int), ns.length = ks.length → (X.toList.drop off).take ks.length = mkI ks ns →
    ∃ a, (part t X off).run P w = .ok a w ∧ ∀ e j, (Instr.checkKey e (d + j) t a).run P w = .ok () w
theorem flat_chk : ∀ (d : Nat) (t : TypeId) (ks : List IntKind), flatT P d t = some ks → ChkS P d t ks
  | 0, t, ks, h => by cases h
  | d + 1, t, ks, h => by
    intro w X off ns h1 h3
    have h0 := h
    unfold flatT at h
    cases hu : P.underlying t with
    | none => simp [hu] at h
    | some td =>
      obtain ⟨i, hi⟩ := info_of_underlying hu
      rw [hu] at h
      cases td
      case int k =>
        simp only at h; cases h
        match ns, h1 with
        | [n], _ =>
          have e1 : X[off]? = some (.int k n) := by
            have := congrArg (fun l => l[0]?) h3; simpa [mkI] using this
          exact ⟨.int k n, by simp [part, isAgg, run_underlying hu, e1], fun e j => by rw [show d + 1 + j = (d + j) + 1 by omega]; simp [Instr.checkKey, run_underlying hu]⟩
      case struct fs =>
        simp only at h
        split at h
        · rename_i hh
          rw [h] at hh
          have hsz : (Go.sizeOf t).run P w = .ok ks.length w := by rw [run_sizeOf w hi]; rw [hh.2]; rfl
          refine ⟨.agg (X.extract off (off + ks.length)), by simp [part, isAgg, run_underlying hu, hsz], fun e j => ?_⟩
          have h3' : ((X.extract off (off + ks.length)).toList.drop 0).take ks.length = mkI ks ns := by rw [extract_eq, List.drop_zero, List.take_take, Nat.min_self]; exact h3
          rw [show d + 1 + j = (d + j) + 1 by omega, Instr.checkKey]
          simp only [Sem.run_bind, run_underlying hu, Result.andThen_ok]
          rw [← Array.forIn_toList]
          generalize X.extract off (off + ks.length) = Y at h3'
          clear hh hsz h0 h3 hi hu
          generalize fs.toList = L at h
          generalize (0 : Nat) = o at h h3'
          induction L generalizing o ks ns with
          | nil => simp
          | cons f L ih =>
            simp only [flatF] at h
            split at h
            · rename_i hf
              split at h
              · rename_i l hl
                split at h
                · rename_i m hm
                  cases h
                  rw [mkI_app h1] at h3'
                  have n1 : (ns.take l.length).length = l.length := by simp at h1 ⊢; omega
                  rw [List.length_append] at h3'
                  obtain ⟨a1, a2⟩ := take_drop_app h3' (mkI_len n1)
                  obtain ⟨a, p1, p2⟩ := flat_chk d f.type l hl w Y o (ns.take l.length) n1 a1
                  have hrr := ih m (ns.drop l.length) (by simp at h1 ⊢; omega) (o + l.length) hm a2
                  simp only [List.forIn_cons, Sem.run_bind, hf.1, ne_eq, not_false_eq_true, if_true, hf.2, p1, p2, Result.andThen_ok, Sem.run_pure]
                  exact hrr
                · cases h
              · cases h
            · cases h
        · cases h
      case array n el =>
        simp only at h
        split at h
        · rename_i l hl
          split at h
          · rename_i hh
            cases h
            have hsz : (Go.sizeOf t).run P w = .ok (List.replicate n l).flatten.length w := by rw [run_sizeOf w hi, hh.1]
            refine ⟨.agg (X.extract off (off + (List.replicate n l).flatten.length)), by simp only [part, isAgg, run_underlying hu, hsz, Sem.run_bind, Result.andThen_ok, Sem.run_pure, if_true], fun e j => ?_⟩
            have hie : ∃ i, P.info? el = some i := by
              cases d with
              | zero => cases hl
              | succ d =>
                unfold flatT at hl
                cases hue : P.underlying el with
                | none => simp [hue] at hl
                | some _ => exact info_of_underlying hue
            obtain ⟨ie, hie⟩ := hie
            have hse : (Go.sizeOf el).run P w = .ok l.length w := by rw [run_sizeOf w hie, hh.2]
            have key : ∀ (m a : Nat) (ns : List Int) (Y : Array Value), ns.length = (List.replicate m l).flatten.length → (Y.toList.drop (a * l.length)).take (List.replicate m l).flatten.length = mkI (List.replicate m l).flatten ns →
                (forIn (List.range' a m) PUnit.unit fun i _ => (do Instr.checkKey e (d + j) el (← part el Y (i * (← Go.sizeOf el))); pure (ForInStep.yield PUnit.unit) : Sem (ForInStep PUnit))).run P w = .ok () w := by
              intro m
              induction m with
              | zero => intro a ns Y _ _; simp
              | succ m ih =>
                intro a ns Y h1 h3
                rw [List.replicate_succ, List.flatten_cons] at h1 h3
                rw [mkI_app h1] at h3
                have n1 : (ns.take l.length).length = l.length := by simp at h1 ⊢; omega
                rw [List.length_append] at h3
                obtain ⟨a1, a2⟩ := take_drop_app h3 (mkI_len n1)
                obtain ⟨x, p1, p2⟩ := flat_chk d el l hl w Y (a * l.length) (ns.take l.length) n1 a1
                have hrr := ih (a + 1) (ns.drop l.length) Y (by rw [List.length_drop, h1, List.length_append]; omega) (by rw [Nat.add_mul, Nat.one_mul]; exact a2)
                simp only [List.range'_succ, List.forIn_cons, Sem.run_bind, hse, p1, p2, Result.andThen_ok, Sem.run_pure]
                exact hrr
            have := key n 0 ns (X.extract off (off + (List.replicate n l).flatten.length)) h1 (by rw [Nat.zero_mul, extract_eq, List.drop_zero, List.take_take, Nat.min_self]; exact h3)
            rw [show d + 1 + j = (d + j) + 1 by omega, Instr.checkKey]
            simp only [Sem.run_bind, run_underlying hu, Result.andThen_ok]
            simp only [Std.Legacy.Range.forIn_eq_forIn_range', Std.Legacy.Range.size, Nat.sub_zero, Nat.add_one_sub_one, Nat.div_one]
            simp at this ⊢
            rw [this]; rfl
          · cases h
        · cases h
      all_goals (simp at h; done)
end
theorem part_whole {P : Program} {t : TypeId} {ks : List IntKind} (h : TyEq P t ks) {ns : List Int} (h1 : ns.length = ks.length) {w : World} {a : Value} (e1 : (part t (mkI ks ns).toArray 0).run P w = .ok a w) : a = .agg (mkI ks ns).toArray := by
  have hag : (isAgg t).run P w = .ok true w := by
    have := h.agg
    split at this
    · rename_i n e hu; simp [isAgg, run_underlying hu]
    · rename_i fs hu; simp [isAgg, run_underlying hu]
    · cases this
  have hsz : (Go.sizeOf t).run P w = .ok ks.length w := by
    have hk := h.ok
    unfold flatT at hk
    cases hu : P.underlying t with
    | none => rw [hu] at hk; cases hk
    | some td =>
      obtain ⟨i, hi⟩ := info_of_underlying hu
      rw [run_sizeOf w hi]
      rw [hu] at hk
      have hag := h.agg; rw [hu] at hag
      cases td <;> simp only [Bool.false_eq_true] at hag
      · simp only at hk
        split at hk
        · split at hk
          · rename_i hh; cases hk; rw [hh.1]
          · cases hk
        · cases hk
      · simp only at hk
        split at hk
        · rename_i hh; rw [hk] at hh; rw [hh.2]; rfl
        · cases hk
  simp only [part, hag, hsz, Sem.run_bind, Result.andThen_ok, if_true, Sem.run_pure] at e1
  cases e1
  congr 1
  apply Array.ext'
  rw [extract_eq, List.drop_zero, List.take_of_length_le (by simp [mkI_len h1])]
theorem okFlat_con {ks : List IntKind} {v : AV} (h : okFlat ks v = true) : ∃ cs ns, v = .agg cs ∧ numsOf cs = some ns ∧ kindsA cs = ks := by
  cases v with
  | agg cs =>
    simp only [okFlat] at h
    split at h
    · rename_i ns hn; exact ⟨cs, ns, rfl, hn, by simpa using h⟩
    · cases h
  | _ => cases h
theorem nums_inj : ∀ {cs ds : List AV} {ns : List Int}, numsOf cs = some ns → numsOf ds = some ns → kindsA cs = kindsA ds → cs = ds
  | [], [], _, _, _, _ => rfl
  | [], .int k n :: l, _, _, _, h => by cases h
  | .int k n :: l, [], _, _, _, h => by cases h
  | .int k n :: l, .int k' n' :: l', ns, h1, h2, h3 => by
    simp only [numsOf] at h1 h2
    split at h1
    · rename_i m hm
      split at h2
      · rename_i m' hm'
        cases h1; cases h2
        simp only [kindsA, List.cons.injEq] at h3
        rw [h3.1, nums_inj hm hm' h3.2]
      · cases h2
    · cases h1
theorem sameBits_ints {ks : List IntKind} : ∀ {ns : List Int} {n : Nat}, (mkI ks ns).zip (mkI ks ns) |>.all (fun (x, y) => Instr.sameBits n x y) := by
  intro ns n
  rw [List.all_eq_true]
  rintro ⟨x, y⟩ hxy
  have : ∀ (l : List Value) (p : Value × Value), p ∈ l.zip l → p.1 = p.2 ∧ p.1 ∈ l := by
    intro l
    induction l with
    | nil => intro p hp; simp at hp
    | cons a l ih =>
      intro p hp
      rw [List.zip_cons_cons] at hp
      rcases List.mem_cons.1 hp with rfl | hp
      · exact ⟨rfl, by simp⟩
      · exact ⟨(ih p hp).1, by simp [(ih p hp).2]⟩
  obtain ⟨e1, e2⟩ := this _ _ hxy
  simp only at e1 e2
  subst e1
  unfold mkI at e2
  have hz : ∀ (ks : List IntKind) (ns : List Int), x ∈ List.zipWith Value.int ks ns → ∃ k m, x = .int k m := by
    intro ks
    induction ks with
    | nil => intro ns h; simp at h
    | cons k ks ih =>
      intro ns h
      cases ns with
      | nil => simp at h
      | cons m ns =>
        rw [List.zipWith_cons_cons] at h
        rcases List.mem_cons.1 h with rfl | h
        · exact ⟨_, _, rfl⟩
        · exact ih ns h
  obtain ⟨k, m, rfl⟩ := hz ks ns e2
  exact sameBits_int
theorem TyKey.of_flat {P : Program} {kt : TypeId} {ks : List IntKind} (hT : TyEq P kt ks) : TyKey P kt (okFlat ks) where
  check e v x ρ Φ w h c := by
    obtain ⟨cs, ns, rfl, h1, h2⟩ := okFlat_con h
    obtain ⟨e1, e2⟩ := numsOf_agg h1 c
    rw [h2] at e1 e2
    obtain ⟨a, p1, p2⟩ := flat_chk 9 kt ks hT.ok w (mkI ks ns).toArray 0 ns e2 (by rw [List.drop_zero, List.take_of_length_le (by simp [mkI_len e2])])
    have := part_whole hT e2 p1
    subst this
    rw [e1]; exact p2 e 9991
  find := by
    intro ρ Φ w key x es l r hk hks c ce hf
    obtain ⟨cs, ns, rfl, h1, h2⟩ := okFlat_con hk
    obtain ⟨e1, e2⟩ := numsOf_agg h1 c
    rw [h2] at e1 e2
    rw [run_findKey_eq w hT.agg]
    have main : ∀ (es : List (AV × AV × Nat)) (l : List MapEntry) (r : Option (Nat × AV)) (i : Nat), keysOk (okFlat ks) es = true → ConE ρ Φ w es l → FindK (.agg cs) es r → ∃ r', (Instr.findAsking kt x l i).run P w = .ok (r'.map fun p => (p.1 + i, p.2)) w ∧ FoundAs ρ Φ w r r' := by
      intro es
      induction es with
      | nil =>
        intro l r i _ ce hf
        simp only [ConE] at ce; subst ce
        cases hf
        exact ⟨none, by simp [Instr.findAsking], trivial⟩
      | cons q es ih =>
        obtain ⟨k1, v1, n1⟩ := q
        intro l r i hks ce hf
        have hks' : okFlat ks k1 = true ∧ keysOk (okFlat ks) es = true := by simpa only [keysOk, Bool.and_eq_true] using hks
        simp only [ConE] at ce
        obtain ⟨xk, xv, l', rfl, c1, c2, c3⟩ := ce
        obtain ⟨ds, ms, rfl, g1, g2⟩ := okFlat_con hks'.1
        obtain ⟨f1, f2⟩ := numsOf_agg g1 c1
        rw [g2] at f1 f2
        have heq := hT.run e2 f2 w
        subst e1; subst f1
        have neq : ∀ (hne : AV.agg ds ≠ .agg cs), ns ≠ ms := fun hne e => hne (by rw [nums_inj g1 (e ▸ h1) (g2.trans h2.symm)])
        cases hf with
        | hit =>
          have : ns = ms := by rw [h1] at g1; cases g1; rfl
          subst this
          exact ⟨some (0, xv), by simp [Instr.findAsking, heq], rfl, c2⟩
        | miss0 hne hr =>
          obtain ⟨r', e3, e4⟩ := ih l' none (i + 1) hks'.2 c3 hr
          refine ⟨none, ?_, trivial⟩
          have : r' = none := by
            cases r' with
            | none => rfl
            | some p => exact e4.elim
          subst this
          simpa [Instr.findAsking, heq, neq hne] using e3
        | miss hne hr =>
          obtain ⟨r', e3, e4⟩ := ih l' _ (i + 1) hks'.2 c3 hr
          cases r' with
          | none => exact e4.elim
          | some p =>
            obtain ⟨j, y⟩ := p
            obtain ⟨e5, e6⟩ := e4
            subst e5
            refine ⟨some (_ + 1, y), ?_, rfl, e6⟩
            simpa [Instr.findAsking, heq, neq hne, Nat.add_assoc, Nat.add_comm 1] using e3
    obtain ⟨r', e3, e4⟩ := main es l r 0 hks ce hf
    refine ⟨r', ?_, e4⟩
    rw [e3]; cases r' <;> simp
  same v x y ρ Φ w h c1 c2 := by
    obtain ⟨cs, ns, rfl, h1, h2⟩ := okFlat_con h
    obtain ⟨e1, e2⟩ := numsOf_agg h1 c1
    obtain ⟨e3, e4⟩ := numsOf_agg h1 c2
    subst e1; subst e3
    have := sameBits_ints (ks := kindsA cs) (ns := ns) (n := 9999)
    simp only [Instr.keyThatStays, Instr.sameBits]
    simp [this]
end Go.AE
end

section
namespace Go.AE
open Go.RowKit
theorem conE_len {ρ : Env} {Φ : Fz} {w : World} : ∀ {es : List (AV × AV × Nat)} {l : List MapEntry}, ConE ρ Φ w es l → l.length = es.length
  | [], l, h => by simp only [ConE] at h; subst h; rfl
  | (k, v, n) :: es, l, h => by
    simp only [ConE] at h; obtain ⟨x, y, l', rfl, _, _, h3⟩ := h; simp [conE_len h3]
theorem conE_append {ρ : Env} {Φ : Fz} {w : World} : ∀ {es fs : List (AV × AV × Nat)} {l m : List MapEntry}, ConE ρ Φ w es l → ConE ρ Φ w fs m → ConE ρ Φ w (es ++ fs) (l ++ m)
  | [], fs, l, m, h, k => by simp only [ConE] at h; subst h; simpa using k
  | (a, v, n) :: es, fs, l, m, h, k => by
    simp only [ConE] at h; obtain ⟨x, y, l', rfl, h1, h2, h3⟩ := h
    rw [List.cons_append, List.cons_append]; simp only [ConE]; exact ⟨x, y, _, rfl, h1, h2, conE_append h3 k⟩
theorem conE_one {ρ : Env} {Φ : Fz} {w : World} {k v : AV} {n : Nat} {x y : Value} (h1 : Con ρ Φ w k x) (h2 : Con ρ Φ w v y) : ConE ρ Φ w [(k, v, n)] [⟨x, y, n⟩] := by
  simp only [ConE]; exact ⟨x, y, [], rfl, h1, h2, rfl⟩
theorem conE_erase {ρ : Env} {Φ : Fz} {w : World} : ∀ {es : List (AV × AV × Nat)} {l : List MapEntry} (i : Nat), ConE ρ Φ w es l → ConE ρ Φ w (es.eraseIdx i) (l.eraseIdx i)
  | [], l, i, h => by simp only [ConE] at h; subst h; simp [ConE]
  | (a, v, n) :: es, l, 0, h => by simp only [ConE] at h; obtain ⟨x, y, l', rfl, h1, h2, h3⟩ := h; simpa using h3
  | (a, v, n) :: es, l, i + 1, h => by
    simp only [ConE] at h; obtain ⟨x, y, l', rfl, h1, h2, h3⟩ := h
    rw [List.eraseIdx_cons_succ, List.eraseIdx_cons_succ]; simp only [ConE]; exact ⟨x, y, _, rfl, h1, h2, conE_erase i h3⟩
theorem conE_get {ρ : Env} {Φ : Fz} {w : World} : ∀ {es : List (AV × AV × Nat)} {l : List MapEntry} (i : Nat) {k v : AV} {n : Nat}, ConE ρ Φ w es l → es[i]? = some (k, v, n) → ∃ x y, l[i]? = some ⟨x, y, n⟩ ∧ Con ρ Φ w k x ∧ Con ρ Φ w v y
  | [], l, i, k, v, n, h, e => by simp at e
  | (a, u, m) :: es, l, 0, k, v, n, h, e => by
    simp only [ConE] at h; obtain ⟨x, y, l', rfl, h1, h2, h3⟩ := h
    simp at e; obtain ⟨rfl, rfl, rfl⟩ := e; exact ⟨x, y, by simp, h1, h2⟩
  | (a, u, m) :: es, l, i + 1, k, v, n, h, e => by
    simp only [ConE] at h; obtain ⟨x, y, l', rfl, h1, h2, h3⟩ := h
    simp only [List.getElem?_cons_succ] at e ⊢; exact conE_get i h3 e
theorem conE_set {ρ : Env} {Φ : Fz} {w : World} : ∀ {es : List (AV × AV × Nat)} {l : List MapEntry} (i : Nat) {k v : AV} {n : Nat} {x y : Value}, ConE ρ Φ w es l → Con ρ Φ w k x → Con ρ Φ w v y → ConE ρ Φ w (es.set i (k, v, n)) (l.set i ⟨x, y, n⟩)
  | [], l, i, k, v, n, x, y, h, _, _ => by simp only [ConE] at h; subst h; simp [ConE]
  | (a, u, m) :: es, l, 0, k, v, n, x, y, h, hk, hv => by
    simp only [ConE] at h; obtain ⟨x', y', l', rfl, h1, h2, h3⟩ := h
    rw [List.set_cons_zero, List.set_cons_zero]; simp only [ConE]; exact ⟨x, y, l', rfl, hk, hv, h3⟩
  | (a, u, m) :: es, l, i + 1, k, v, n, x, y, h, hk, hv => by
    simp only [ConE] at h; obtain ⟨x', y', l', rfl, h1, h2, h3⟩ := h
    rw [List.set_cons_succ, List.set_cons_succ]; simp only [ConE]; exact ⟨x', y', _, rfl, h1, h2, conE_set i h3 hk hv⟩
theorem modify_set {α : Type} (f : α → α) : ∀ {l : List α} {i : Nat} {a : α}, l[i]? = some a → l.modify i f = l.set i (f a)
  | [], _, _, h => by simp at h
  | b :: l, 0, a, h => by simp at h; subst h; simp
  | b :: l, i + 1, a, h => by simp at h ⊢; exact modify_set f h
section ops
variable {C : Ctx} {T : AT} {H : AH} {nx : Nat} {d : Option Tmp} {ty : TypeId} {pos : String} {after : Array Edge} {g : Option (Nat × Bool)}
theorem U_makeMap {t : TypeId} : OpU C ⟨d, .makeMap t none, ty, pos, after, g⟩ T H nx (.mapl nx) [(nx, some (.map [] 0))] (nx + 1) :=
  OpU.of_run (by intro c; simp) fun ρ Φ a w hf h2 h3 => by
    have hp := Post.new h3 (nx := nx) (hf nx (Nat.le_refl _) (Nat.lt_succ_self _)) (k := .map [] 0) (o := .map #[] 0) 0 0 ⟨[], by simp [ConE], rfl⟩
    refine ⟨ρ.upd nx (w.heap.size, 0, 0), Φ, .map (some w.heap.size), w.alloc (.map #[] 0), .inl ?_, ?_, by simp only [Con]; exact ⟨_, Env.upd_same _ _ _, rfl⟩⟩
    · simp only [execOp, Instr.makeMap, Option.map_none]
      simp
    · rw [List.cons_append, List.nil_append, gt_upG]; exact hp.more (by simp)
theorem map_at {ρ : Env} {Φ : Fz} {w : World} {Wr : Nat → Prop} {w0 : World} {b : Nat} {es : List (AV × AV × Nat)} {ck : Nat} {x : Value} (hm : Mem Wr w0 ρ Φ (gt H) w) (hg : gt H b = some (.map es ck)) (h : Con ρ Φ w (.mapl b) x) :
    ∃ y l, ρ b = some y ∧ x = .map (some y.1) ∧ w.heap[y.1]? = some (.map l.toArray ck) ∧ ConE ρ Φ w es l := by
  simp only [Con] at h
  obtain ⟨y, h1, h2⟩ := h
  obtain ⟨y', o, e1, e2, l, e3, rfl⟩ := hm.at_ _ _ hg
  rw [h1] at e1; cases e1
  exact ⟨y, l, h1, h2, e2, e3⟩
theorem run_getMap {P : Program} {w : World} {r : Nat} {es : Array MapEntry} {ck : Nat} (h : w.heap[r]? = some (.map es ck)) : (getObj r).run P w = .ok (.map es ck) w := by simp [getObj, Sem.run, h]
theorem run_setMap {P : Program} {w : World} {r : Nat} {es : Array MapEntry} {ck : Nat} (o : Obj) (h : w.heap[r]? = some (.map es ck)) : (setObj r o).run P w = .ok () (w.putObj r o) := by simp [setObj, Sem.run, h, World.putObj]
theorem U_lookup {t kt et : TypeId} {x i : Operand} {b ck j : Nat} {key v : AV} {es : List (AV × AV × Nat)} {ok : AV → Bool} [hM : TyMap C.P t kt et] [hK : TyKey C.P kt ok] (hx : ev T x = some (.mapl b)) (hi : ev T i = some key) (hg : gt H b = some (.map es ck)) (hk : ok key = true) (hks : keysOk ok es = true)
    (hf : FindK key es (some (j, v))) : OpU C ⟨d, .lookup t x i false, ty, pos, after, g⟩ T H nx v [] nx :=
  OpU.of_value (by intro c; simp) fun ρ Φ a w h2 h3 => by
    obtain ⟨y, l, e1, e2, e3, e4⟩ := map_at h3 hg (ev_con h2 hx)
    obtain ⟨r', f1, f2⟩ := hK.find ρ Φ w key _ es l _ hk hks (ev_con h2 hi) e4 hf
    cases r' with
    | none => exact f2.elim
    | some p =>
      obtain ⟨j', z⟩ := p
      obtain ⟨rfl, f3⟩ := f2
      refine ⟨z, ?_, f3⟩
      simp only [execOp, Instr.lookup, Sem.run_bind, run_underlying hM.un, Result.andThen_ok, e2, run_getMap e3, Sem.run_pure, hK.check _ _ _ _ _ _ hk (ev_con h2 hi), f1, Bool.false_eq_true, if_false]
theorem run_update_new {w : World} {ρ : Env} {Φ : Fz} {t kt et : TypeId} {ok : AV → Bool} [hM : TyMap C.P t kt et] [hK : TyKey C.P kt ok] {r ck : Nat} {key : AV} {kx vx : Value} {es : List (AV × AV × Nat)} {l : List MapEntry} (e3 : w.heap[r]? = some (.map l.toArray ck)) (e4 : ConE ρ Φ w es l) (hc : Con ρ Φ w key kx) (hk : ok key = true) (hks : keysOk ok es = true) (hf : FindK key es none) :
    (Instr.mapUpdate t (.map (some r)) kx vx).run C.P w = .ok () (w.putObj r (.map (l ++ [(⟨kx, vx, ck⟩ : MapEntry)]).toArray (ck + 1))) := by
  obtain ⟨r', f1, f2⟩ := hK.find ρ Φ w key _ es l _ hk hks hc e4 hf
  cases r' with
  | some p => exact f2.elim
  | none => simp [Instr.mapUpdate, run_underlying hM.un, run_getMap e3, hK.check _ _ _ _ _ _ hk hc, f1, run_setMap _ e3]
theorem run_update_old {w : World} {ρ : Env} {Φ : Fz} {t kt et : TypeId} {ok : AV → Bool} [hM : TyMap C.P t kt et] [hK : TyKey C.P kt ok] {r ck i n : Nat} {key v : AV} {kx vx : Value} {es : List (AV × AV × Nat)} {l : List MapEntry} (e3 : w.heap[r]? = some (.map l.toArray ck)) (e4 : ConE ρ Φ w es l) (hc : Con ρ Φ w key kx) (hk : ok key = true) (hks : keysOk ok es = true) (hf : FindK key es (some (i, v))) (hn : es[i]? = some (key, v, n)) :
    (Instr.mapUpdate t (.map (some r)) kx vx).run C.P w = .ok () (w.putObj r (.map (l.set i (⟨kx, vx, n⟩ : MapEntry)).toArray ck)) := by
  obtain ⟨r', f1, f2⟩ := hK.find ρ Φ w key _ es l _ hk hks hc e4 hf
  cases r' with
  | none => exact f2.elim
  | some p =>
    obtain ⟨j', z⟩ := p
    obtain ⟨rfl, _⟩ := f2
    obtain ⟨x0, y0, g1, g2, _⟩ := conE_get i e4 hn
    have hsame := hK.same key x0 kx ρ Φ w hk g2 hc
    simp only [Instr.mapUpdate, Sem.run_bind, run_underlying hM.un, run_getMap e3, hK.check _ _ _ _ _ _ hk hc, f1, Result.andThen_ok, List.getElem?_toArray, g1, Option.map_some, Option.getD_some, hsame, run_setMap _ e3]
    congr 3
    rw [List.modify_toArray]
    congr 1
    exact modify_set _ g1
theorem U_mapUpdate {t kt et : TypeId} {x i y : Operand} {b ck : Nat} {key v : AV} {es : List (AV × AV × Nat)} {ok : AV → Bool} [hM : TyMap C.P t kt et] [hK : TyKey C.P kt ok] (hx : ev T x = some (.mapl b)) (hi : ev T i = some key) (hy : ev T y = some v) (hg : gt H b = some (.map es ck)) (hk : ok key = true) (hks : keysOk ok es = true) (hf : FindK key es none) :
    OpU C ⟨d, .mapUpdate t x i y, ty, pos, after, g⟩ T H nx (.tup []) [(b, some (.map (es ++ [(key, v, ck)]) (ck + 1)))] nx :=
  OpU.of_run (by intro c; simp) fun ρ Φ a w _ h2 h3 => by
    obtain ⟨z, l, e1, e2, e3, e4⟩ := map_at h3 hg (ev_con h2 hx)
    have hp := Post.set h3 nx (k' := .map (es ++ [(key, v, ck)]) (ck + 1)) hg e1 (oneNew_put (o := .map (l ++ [(⟨a.eval i, a.eval y, ck⟩ : MapEntry)]).toArray (ck + 1)) e3) ⟨_, conE_append e4 (conE_one (ev_con h2 hi) (ev_con h2 hy)), rfl⟩
    refine ⟨ρ, Φ, undef, w.putObj z.1 (.map (l ++ [(⟨a.eval i, a.eval y, ck⟩ : MapEntry)]).toArray (ck + 1)), .inr ⟨?_, rfl⟩, ?_, by simp [Con, undef, ConL]⟩
    · have := run_update_new (C := C) (t := t) (vx := a.eval y) e3 e4 (ev_con h2 hi) hk hks hf
      simp only [execOp, e2, Sem.run_bind, this, Result.andThen_ok]; rfl
    · rw [List.cons_append, List.nil_append, gt_upG]; exact hp
theorem U_mapUpdateOld {t kt et : TypeId} {x i y : Operand} {b ck j n : Nat} {key v u : AV} {es : List (AV × AV × Nat)} {ok : AV → Bool} [hM : TyMap C.P t kt et] [hK : TyKey C.P kt ok] (hx : ev T x = some (.mapl b)) (hi : ev T i = some key) (hy : ev T y = some v) (hg : gt H b = some (.map es ck)) (hk : ok key = true) (hks : keysOk ok es = true) (hf : FindK key es (some (j, u))) (hn : es[j]? = some (key, u, n)) :
    OpU C ⟨d, .mapUpdate t x i y, ty, pos, after, g⟩ T H nx (.tup []) [(b, some (.map (es.set j (key, v, n)) ck))] nx :=
  OpU.of_run (by intro c; simp) fun ρ Φ a w _ h2 h3 => by
    obtain ⟨z, l, e1, e2, e3, e4⟩ := map_at h3 hg (ev_con h2 hx)
    have hp := Post.set h3 nx (k' := .map (es.set j (key, v, n)) ck) hg e1 (oneNew_put (o := .map (l.set j (⟨a.eval i, a.eval y, n⟩ : MapEntry)).toArray ck) e3) ⟨_, conE_set j e4 (ev_con h2 hi) (ev_con h2 hy), rfl⟩
    refine ⟨ρ, Φ, undef, w.putObj z.1 (.map (l.set j (⟨a.eval i, a.eval y, n⟩ : MapEntry)).toArray ck), .inr ⟨?_, rfl⟩, ?_, by simp [Con, undef, ConL]⟩
    · have := run_update_old (C := C) (t := t) (vx := a.eval y) e3 e4 (ev_con h2 hi) hk hks hf hn
      simp only [execOp, e2, Sem.run_bind, this, Result.andThen_ok]; rfl
    · rw [List.cons_append, List.nil_append, gt_upG]; exact hp
theorem U_delete {t kt et tk : TypeId} {x i : Operand} {b ck j : Nat} {key u : AV} {es : List (AV × AV × Nat)} {ok : AV → Bool} [hM : TyMap C.P t kt et] [hK : TyKey C.P kt ok] (hx : ev T x = some (.mapl b)) (hi : ev T i = some key) (hg : gt H b = some (.map es ck)) (hk : ok key = true) (hks : keysOk ok es = true) (hf : FindK key es (some (j, u))) :
    OpU C ⟨d, .call ⟨.builtin .delete, #[x, i], #[t, tk]⟩, ty, pos, after, g⟩ T H nx (.tup []) [(b, some (.map (es.eraseIdx j) ck))] nx :=
  OpU.of_run (by intro c; simp) fun ρ Φ a w _ h2 h3 => by
    obtain ⟨z, l, e1, e2, e3, e4⟩ := map_at h3 hg (ev_con h2 hx)
    have hp := Post.set h3 nx (k' := .map (es.eraseIdx j) ck) hg e1 (oneNew_put (o := .map (l.eraseIdx j).toArray ck) e3) ⟨_, conE_erase j e4, rfl⟩
    obtain ⟨r', f1, f2⟩ := hK.find ρ Φ w key _ es l _ hk hks (ev_con h2 hi) e4 hf
    cases r' with
    | none => exact f2.elim
    | some p =>
      obtain ⟨j', zz⟩ := p
      obtain ⟨rfl, f3⟩ := f2
      refine ⟨ρ, Φ, .tuple #[], w.putObj z.1 (.map (l.eraseIdx j).toArray ck), .inl ?_, ?_, by simp only [Con]; exact ⟨[], conL_nil, rfl⟩⟩
      · have hE : l.toArray.eraseIdxIfInBounds j = (l.eraseIdx j).toArray := by simp
        simp only [execOp, resolve, Sem.run_bind, Sem.run_pure, Result.andThen_ok, invoke, builtin]
        simp only [Builtin.delete_, List.map_toArray, List.map_cons, List.map_nil, List.getElem?_toArray, List.getElem?_cons_zero, List.getElem?_cons_succ, Sem.run_bind, run_underlying hM.un, Result.andThen_ok, e2, run_getMap e3, hK.check _ _ _ _ _ _ hk (ev_con h2 hi), f1, run_setMap _ e3, hE, Sem.run_pure]
      · rw [List.cons_append, List.nil_append, gt_upG]; exact hp
theorem U_copy {dT sT e z n b o c : Nat} {x y : Operand} {v : AV} {cs news cs' : List AV} {te : TypeId} [hT : TySl C.P dT e z] (hx : ev T x = some (.slice b o n c)) (hy : ev T y = some v) (hg : gt H b = some (.cells cs te)) (hl : o + n * z ≤ cs.length) (h2 : srcS z H v = some (news, n)) (h1 : news.all AV.one = true) (hs : setC cs o news = cs') :
    OpU C ⟨d, .call ⟨.builtin .copy, #[x, y], #[dT, sT]⟩, ty, pos, after, g⟩ T H nx (.int .i64 n) [(b, some (.cells cs' te))] nx :=
  OpU.of_run (by intro c; simp) fun ρ Φ a w _ h3 h4 => by
    subst hs
    obtain ⟨ad', k', ys, e4, e5, e6⟩ := srcS_con (P := C.P) h4 h2 (ev_con h3 hy)
    have hcx := ev_con h3 hx
    simp only [Con] at hcx
    obtain ⟨yy, f1, f2⟩ := hcx
    obtain ⟨yy', ob, f5, f6, pre, xs, rest, f7, f8, f9, rfl⟩ := h4.at_ _ _ hg
    rw [f1] at f5; cases f5
    have hlx := conL_len f7; have hl2 := conL_len e6; have hn2 := srcS_len h2
    obtain ⟨w', hw1, hw2⟩ := run_storeCells (P := C.P) (pre := pre) (rest := rest) (t := te) (r := yy.1) o ys xs 0 w f6 (by omega) (conL_one e6 (by simpa using h1))
    have hp := Post.set h4 nx (k' := .cells (setC cs o news) te) hg f1 hw2 ⟨pre, setC xs o ys, rest, by simpa using conL_setC o f7 e6, f8, by simp [setC_len, f9], by simp⟩
    refine ⟨ρ, Φ, goInt n, w', .inl ?_, ?_, mk_int⟩
    · simp only [execOp, resolve, Sem.run_bind, Sem.run_pure, Result.andThen_ok, invoke, builtin]
      have e5' := e5 w.drawn
      have hst : (storeCells (⟨yy.1, yy.2.1 + o, none⟩ : Addr) ys).run C.P w = .ok () w' := by rw [← f8]; exact hw1
      simp only [Builtin.copy_, List.map_toArray, List.map_cons, List.map_nil, List.getElem?_toArray, List.getElem?_cons_zero, List.getElem?_cons_succ, Sem.run_bind, run_underlying hT.un, Result.andThen_ok, f2, e4, Builtin.lenOf, Sem.run_pure, hT.size, Nat.min_self]
      rw [e4] at e5'
      simp only [e5', Result.andThen_ok, hst]
    · rw [List.cons_append, List.nil_append, gt_upG]; exact hp
end ops
end Go.AE
end

section
namespace Go.AE
open Go.RowKit
def AV.le (v v' : AV) : Prop := ∀ ρ Φ w x, Con ρ Φ w v x → Con ρ Φ w v' x
def leL (l l' : List AV) : Prop := ∀ ρ Φ w x, ConL ρ Φ w l x → ConL ρ Φ w l' x
theorem le_refl (v : AV) : v.le v := fun _ _ _ _ h => h
theorem le_trans {a b c : AV} (h : a.le b) (k : b.le c) : a.le c := fun ρ Φ w x e => k ρ Φ w x (h ρ Φ w x e)
theorem leL_refl (v : List AV) : leL v v := fun _ _ _ _ h => h
theorem leL_cons {v v' : AV} {l l' : List AV} (h : v.le v') (k : leL l l') : leL (v :: l) (v' :: l') := fun ρ Φ w x e => by
  obtain ⟨y, ys, rfl, h1, h2⟩ := conL_inv e; exact conL_cons (h ρ Φ w y h1) (k ρ Φ w ys h2)
theorem le_nils {cs : List AV} : AV.le .nils (.ros cs 0 none) := fun ρ Φ w x h => by
  simp only [Con] at h ⊢; exact .inl ⟨trivial, ⟨_, h⟩, fun m hm => by cases hm⟩
theorem le_cap {cs : List AV} {n : Nat} {c : Option Nat} : AV.le (.ros cs n c) (.ros cs n none) := fun ρ Φ w x h => by
  simp only [Con] at h ⊢
  rcases h with ⟨h1, h2, _⟩ | ⟨r, base, xs, k, h1, h2, h3, _, h5⟩
  · exact .inl ⟨h1, h2, fun m hm => by cases hm⟩
  · exact .inr ⟨r, base, xs, k, h1, h2, h3, fun m hm => (by cases hm), h5⟩
theorem Pure.weak {P : Program} {f : FuncId} {a a' : List AV} {r : AV} (h : Pure P f a' r) (k : leL a a') : Pure P f a r := fun Φ w xs h1 h2 => h Φ w xs h1 (k _ _ _ _ h2)
theorem Pure.res {P : Program} {f : FuncId} {a : List AV} {r r' : AV} (h : Pure P f a r) (k : r.le r') : Pure P f a r' := fun Φ w xs h1 h2 => (h Φ w xs h1 h2).mono fun _ _ ⟨x, Φ', e1, e2, e3⟩ => ⟨x, Φ', e1, k _ _ _ _ e2, e3⟩
section
variable {C : Ctx} {c : Code} {Q : Exit → St → Prop} {T : AT} {H : AH} {nx : Nat} {df : List Nat} {ops : Array Oper} {i : Nat} {K : St → Prop}
theorem Gh_weakT {j : Nat} {v v' : AV} (hj : lk T j = some v) (h : v.le v') : Gh C ⟨T, H, nx, df⟩ ⟨(j, v') :: T, H, nx, df⟩ := fun ρ Φ a w hc =>
  ⟨ρ, Φ, hc.dom, ⟨hc.tm.size, fun k u hk => by
    rw [lk_cons] at hk
    split at hk
    · rename_i e; subst e; cases hk
      obtain ⟨x, h1, h2⟩ := hc.tm.at_ j v hj
      exact ⟨x, h _ _ _ _ h1, h2⟩
    · exact hc.tm.at_ k u hk⟩, hc.mem, hc.df, hc.fz, hc.base, hc.kn, hc.dk⟩
theorem Gh_weakH {b : Nat} {cs cs' : List AV} {t : TypeId} (hb : gt H b = some (.cells cs t)) (h : leL cs cs') : Gh C ⟨T, H, nx, df⟩ ⟨T, (b, some (.cells cs' t)) :: H, nx, df⟩ := fun ρ Φ a w hc =>
  ⟨ρ, Φ, hc.dom, hc.tm, by
    have live : ∀ m, gt ((b, some (ABlk.cells cs' t)) :: H) m ≠ none → gt H m ≠ none := fun m hm => by
      rw [gt_cons] at hm
      by_cases e : b = m
      · subst e; rw [hb]; simp
      · rwa [if_neg e] at hm
    refine ⟨fun m k hm => ?_, fun m m' x x' h1 h2 => hc.mem.inj m m' x x' (live m h1) (live m' h2), fun m x h1 => hc.mem.free m x (live m h1), fun m x h1 => hc.mem.own m x (live m h1), hc.mem.frz, hc.mem.keep⟩
    rw [gt_cons] at hm
    by_cases e : b = m
    · subst e; rw [if_pos rfl] at hm; cases hm
      obtain ⟨x, o, h1, h2, pre, xs, rest, h3, h4⟩ := hc.mem.at_ b _ hb
      exact ⟨x, o, h1, h2, pre, xs, rest, h _ _ _ _ h3, h4⟩
    · rw [if_neg e] at hm; exact hc.mem.at_ m k hm, hc.df, hc.fz, hc.base, hc.kn, hc.dk⟩
theorem WweakT {j : Nat} {v v' : AV} (hj : lk T j = some v) (h : v.le v') (k : WpA C c Q ⟨(j, v') :: T, H, nx, df⟩) : WpA C c Q ⟨T, H, nx, df⟩ := W_gh (Gh_weakT hj h) k
theorem WweakH {b : Nat} {cs cs' : List AV} {t : TypeId} (hb : gt H b = some (.cells cs t)) (h : leL cs cs') (k : WpA C c Q ⟨T, (b, some (.cells cs' t)) :: H, nx, df⟩) : WpA C c Q ⟨T, H, nx, df⟩ := W_gh (Gh_weakH hb h) k
theorem Rsplit {t : Nat} {b : Bool} (_h : lk T t = some (.bool b)) (ht : b = true → Reg C ops i K ⟨T, H, nx, df⟩) (hf : b = false → Reg C ops i K ⟨T, H, nx, df⟩) : Reg C ops i K ⟨T, H, nx, df⟩ := by cases b; exact hf rfl; exact ht rfl
theorem Dsplit {al : Nat × ABlk} {kl : Oper → Nat} {ops : List Oper} {ms : List Nat} {H0 : AH} {K : AT → AH → Nat → Prop} {i : Nat} {D : List (Nat × AH)} {t : Nat} {b : Bool} (_h : lk T t = some (.bool b)) (ht : b = true → Dr (al := al) C kl ops ms H0 K i T D nx) (hf : b = false → Dr (al := al) C kl ops ms H0 K i T D nx) : Dr (al := al) C kl ops ms H0 K i T D nx := by cases b; exact hf rfl; exact ht rfl
theorem Wjoin (sj : St) (h : WpA C c (fun e s => e = .normal ∧ Gh C s sj) ⟨T, H, nx, df⟩) (k : Q .normal sj) : WpA C c Q ⟨T, H, nx, df⟩ := fun ρ Φ a w hc =>
  wpIn_mono (h ρ Φ a w hc) fun e a' w' ⟨s', ρ', Φ', ⟨he, hg⟩, hc'⟩ => by
    subst he
    obtain ⟨ρ2, Φ2, h2⟩ := hg ρ' Φ' a' w' hc'
    exact ⟨sj, ρ2, Φ2, k, h2⟩
end
end Go.AE
end

section
namespace Go.AE
open Go.RowKit
section
variable {C : Ctx} {c : Code} {Q : Exit → St → Prop} {T T' : AT} {H H' : AH} {nx nx' : Nat} {df : List Nat} {ops : Array Oper} {i : Nat} {K : St → Prop}
def mapN (l : List Nat) (m : Nat) : Nat := (nth l m).getD m
end
end Go.AE
end

section
namespace Go.AE
open Go.RowKit
def outV (b z : Nat) : Nat → AV
  | 0 => .nils
  | n + 1 => .sliceo b 0 (n + 1) z
def outB (cs : List AV) (t : TypeId) : Nat → Option ABlk
  | 0 => none
  | _ + 1 => some (.cells cs t)
section ops
variable {C : Ctx} {T : AT} {H : AH} {nx : Nat} {d : Option Tmp} {ty : TypeId} {pos : String} {after : Array Edge} {g : Option (Nat × Bool)}
theorem OpU.drop {o : Oper} {v : AV} {b : Nat} {k : Option ABlk} (h : OpU C o T H nx v [(nx, k)] (nx + 1)) : OpU C o T H nx v [(nx, k), (b, none)] (nx + 1) := fun ρ Φ a w h1 h2 h3 K Q kk =>
  h ρ Φ a w h1 h2 h3 K Q fun ρ' Φ' x w' hp hx => kk ρ' Φ' x w' ((Post.less hp (by
    intro m q hm
    simp only [List.cons_append, List.nil_append, gt_cons] at hm ⊢
    split
    · rename_i e; rw [if_pos e] at hm; exact hm
    · rename_i e; rw [if_neg e] at hm
      split at hm
      · cases hm
      · exact hm)).more (by simp)) hx
theorem U_appendOut {sT xT e e' z n m b : Nat} {x y : Operand} {v : AV} {cs cs' news : List AV} [hT : TySl C.P sT e z] [hX : TySl C.P xT e' z] [hE : TyElem C.P e z] (hx : ev T x = some (outV b z n)) (hy : ev T y = some v) (hg : gt H b = outB cs e n) (hl : cs.length = n * z) (h2 : srcS z H v = some (news, m + 1))
    (h1 : news.all AV.one = true) (hlim : n + (m + 1) ≤ 1000000) (hc : cs ++ news = cs') :
    OpU C ⟨d, .call ⟨.builtin .append, #[x, y], #[sT, xT]⟩, ty, pos, after, g⟩ T H nx (outV nx z (n + (m + 1))) [(nx, outB cs' e (n + (m + 1))), (b, none)] (nx + 1) := by
  cases n with
  | zero =>
    have hcs : cs = [] := List.length_eq_zero_iff.1 (by omega)
    subst hcs
    have h := U_appendGrow (C := C) (T := T) (H := H) (nx := nx) (d := d) (ty := ty) (pos := pos) (after := after) (g := g) (sT := sT) (xT := xT) (c := 0) (s := .nils) (olds := []) (n := 0) hx hy rfl h2 rfl (by omega) hlim
    rw [Nat.zero_add] at h ⊢
    simp only [List.nil_append] at h hc
    subst hc
    exact OpU.drop h
  | succ n =>
    exact U_appendOpen (n := n + 1) (m := m + 1) (o := 0) hx hy hg (by omega) h2 h1 hlim (by rw [List.drop_zero]; exact hc)
end ops
mutual
theorem ren_data {σ : Nat → Nat} : ∀ (v : AV), v.data → v.ren σ = v
  | .bool _, _ | .int _ _, _ | .str _, _ | .nilp, _ | .nils, _ | .nilm, _ | .nilf, _ | .nili, _ | .rop _ _, _ | .ros _ _ _, _ | .rom _, _ => rfl
  | .ptr _ _, d | .slice _ _ _ _, d | .sliceo _ _ _ _, d | .out _ _ _, d | .mapl _, d | .yld _, d => by cases d
  | .agg cs, d => by
    have d' : isdL cs = true := by simpa [AV.data, AV.isd] using d
    simp only [AV.ren, renL_data cs d']
  | .tup cs, d => by
    have d' : isdL cs = true := by simpa [AV.data, AV.isd] using d
    simp only [AV.ren, renL_data cs d']
  | .fn f a b, d => by
    have d' : isdL a = true ∧ isdL b = true := by simpa [AV.data, AV.isd] using d
    simp only [AV.ren, renL_data a d'.1, renL_data b d'.2]
theorem renL_data {σ : Nat → Nat} : ∀ (l : List AV), dataL l → renL σ l = l
  | [], _ => rfl
  | v :: l, d => by
    have d' := dataL_cons.1 d
    simp only [renL, ren_data v d'.1, renL_data l d'.2]
end
mutual
theorem belb_data {n : Nat} : ∀ (v : AV), v.data → v.belb n = true
  | .bool _, _ | .int _ _, _ | .str _, _ | .nilp, _ | .nils, _ | .nilm, _ | .nilf, _ | .nili, _ | .rop _ _, _ | .ros _ _ _, _ | .rom _, _ => rfl
  | .ptr _ _, d | .slice _ _ _ _, d | .sliceo _ _ _ _, d | .out _ _ _, d | .mapl _, d | .yld _, d => by cases d
  | .agg cs, d => by
    have d' : isdL cs = true := by simpa [AV.data, AV.isd] using d
    simp only [AV.belb, belbL_data cs d']
  | .tup cs, d => by
    have d' : isdL cs = true := by simpa [AV.data, AV.isd] using d
    simp only [AV.belb, belbL_data cs d']
  | .fn f a b, d => by
    have d' : isdL a = true ∧ isdL b = true := by simpa [AV.data, AV.isd] using d
    simp only [AV.belb, belbL_data a d'.1, belbL_data b d'.2, Bool.and_self]
theorem belbL_data {n : Nat} : ∀ (l : List AV), dataL l → belbL n l = true
  | [], _ => rfl
  | v :: l, d => by
    have d' := dataL_cons.1 d
    simp only [belbL, belb_data v d'.1, belbL_data l d'.2, Bool.and_self]
end
end Go.AE
end

section
namespace Go.AE
open Go.RowKit
section ops
variable {C : Ctx} {T : AT} {H : AH} {nx : Nat} {d : Option Tmp} {ty : TypeId} {pos : String} {after : Array Edge} {g : Option (Nat × Bool)}
theorem U_sliceTo {t e z n h : Nat} {c : Option Nat} {x hi : Operand} {cs : List AV} [hT : TySl C.P t e z] (hx : ev T x = some (.ros cs n c)) (hhi : bnd T 0 (some hi) = some (h : Int)) (h2 : h ≤ n) :
    OpU C ⟨d, .slice t x none (some hi) none, ty, pos, after, g⟩ T H nx (.ros cs h none) [] nx :=
  OpU.of_value (by intro c; simp) fun ρ Φ a w h3 _ => by
    have hp := ev_con h3 hx
    simp only [Con] at hp
    rcases hp with ⟨e1, ⟨p, e2⟩, e3⟩ | ⟨r, base, xs, k, e1, e2, e3, e4, e5, e6, e7⟩
    · have hl : h = 0 := by omega
      subst hl; subst e1
      have := run_sliceAt (P := C.P) (w := w) (t := t) (ad := p) (n := 0) (k := 0) (l := 0) (h := 0) (m := 0) (lo := none) rfl (bnd_con h3 hhi) (mx := none) (hi := some (a.eval hi)) rfl (Nat.le_refl _) (Nat.le_refl _) (Nat.le_refl _)
      refine ⟨.slice p 0 0, by simp only [execOp, e2, Sem.run_bind, Option.map_none, Option.map_some, this, Result.andThen_ok, Sem.run_pure]; simp only [if_true], ?_⟩
      simp only [Con]
      exact .inl ⟨trivial, ⟨_, rfl⟩, fun m hm => by cases hm⟩
    · have := run_sliceAt (P := C.P) (w := w) (t := t) (ad := some ⟨r, base, none⟩) (n := n) (k := k) (l := 0) (h := h) (m := k) (lo := none) rfl (bnd_con h3 hhi) (mx := none) (hi := some (a.eval hi)) rfl (Nat.zero_le _) (by omega) (Nat.le_refl _)
      refine ⟨.slice (some ⟨r, base, none⟩) h k, ?_, ?_⟩
      · simp only [execOp, e2, Sem.run_bind, Option.map_none, Option.map_some, this, Result.andThen_ok, Sem.run_pure]
        simp [add_at]
      · simp only [Con]
        exact .inr ⟨r, base, xs, k, e1, rfl, by omega, fun m hm => (by cases hm), e5, e6, e7⟩
end ops
end Go.AE
end

section
namespace Go.AE
open Go.RowKit
section ops
variable {C : Ctx} {T : AT} {H : AH} {nx : Nat} {d : Option Tmp} {ty : TypeId} {pos : String} {after : Array Edge} {g : Option (Nat × Bool)}
theorem new_fz {Wr : Nat → Prop} {w0 : World} {ρ : Env} {Φ : Fz} {w : World} {G : Nat → Option ABlk} (hm : Mem Wr w0 ρ Φ G w) (nx : Nat) (o : Obj) : Post Wr w0 ρ Φ w nx nx [] G ρ (fun r => Φ r ∨ r = w.heap.size) (w.alloc o) :=
  Post.later hm nx ((Below.refl _ _).alloc (Nat.le_refl _) o) (fun _ h => .inl h) (fun r h => h.imp id fun e => by omega) fun r h => by
    rw [World.size_alloc]
    rcases h with h | h
    · have := hm.frz r h; omega
    · omega
theorem at_new {w : World} {xs : List Value} {t : TypeId} : At (w.alloc (.cells xs.toArray t)) w.heap.size 0 xs := by
  have h := heap_alloc_new w (.cells xs.toArray t)
  exact at_of_cells (pre := []) (rest := []) (fz := (0, 0)) (by simpa using h)
theorem U_boxF {t : TypeId} {x : Operand} {v : AV} {cs : List AV} (hx : ev T x = some v) (hc : v.cellsA = cs) (hd : dataL cs) : OpU C ⟨d, .box t x, ty, pos, after, g⟩ T H nx (.rop cs 0) [] nx :=
  OpU.of_run (by intro c; simp) fun ρ Φ a w _ h2 h3 => by
    have hcs := hc ▸ con_cells (ev_con h2 hx)
    have hlt : ∀ r, Φ r → (w.alloc (.cells (a.eval x).cells t)).heap[r]? = w.heap[r]? := fun r hr => Below.heap_alloc w _ r (h3.frz r hr)
    refine ⟨_, _, .pointer (some ⟨w.heap.size, 0 + 0, none⟩), w.alloc (.cells (a.eval x).cells t), .inl ?_, new_fz h3 nx _, ?_⟩
    · simp [execOp, Instr.box, newVar, newRow]
    · simp only [Con]
      exact ⟨w.heap.size, 0, (a.eval x).cells.toList, .inr rfl, rfl, ConL.mono ρ.le_refl (fun _ h => .inl h) hlt _ hcs, at_new (xs := (a.eval x).cells.toList), hd⟩
theorem U_buildSliceF {t : TypeId} {n e k : Nat} {ps : Array (Nat × Operand)} {vs : List (Nat × AV)} {z cs : List AV} [hT : TySl C.P t e k] [hz : TyZero C.P e z] (hk : z.length = k) (hlim : n * k ≤ 2 ^ 24) (hv : evP T ps.toList = some vs) (hf : fillA (fun i => some (i * k, k)) (List.replicate n z).flatten vs = some cs) (hd : dataL cs) :
    OpU C ⟨d, .buildSlice t n ps, ty, pos, after, g⟩ T H nx (.ros cs n (some n)) [] nx :=
  OpU.of_run (by intro c; simp) fun ρ Φ a w h1 h2 h3 => by
    obtain ⟨zv, hz1, hz2⟩ := hz.zero
    have hzc := cvSL_con (ρ := ρ) (Φ := Φ) (w := w) hz2
    have hzl := conL_len hzc
    have hzs : zv.cells.size = k := by rw [← hk, ← hzl]; simp
    have hzz : ∃ Z : Array Value, ((n * k = 0 ∧ Z = #[]) ∨ (n * k ≠ 0 ∧ Z = zv.cells)) ∧ ((Array.range (n * k)).map (Z[· % Z.size]!)).toList = (List.replicate n zv.cells.toList).flatten := by
      by_cases h0 : n * k = 0
      · refine ⟨#[], .inl ⟨h0, rfl⟩, ?_⟩
        rw [h0]
        have : (List.replicate n zv.cells.toList).flatten.length = 0 := by simp [hzs, h0]
        rw [List.length_eq_zero_iff.1 this]; simp
      · refine ⟨zv.cells, .inr ⟨h0, rfl⟩, ?_⟩
        rw [← hzs]; exact zeros_eq zv.cells n
    obtain ⟨Z, hZ1, hZ2⟩ := hzz
    have hc0 : ConL ρ Φ w (List.replicate n z).flatten ((Array.range (n * k)).map (Z[· % Z.size]!)).toList := by rw [hZ2]; exact conL_flat hzc n
    obtain ⟨ys, e1, e2⟩ := fill_con (evP_con h2 hv) hc0 hf
    have hlt : ∀ r, Φ r → (w.alloc (.cells ys e)).heap[r]? = w.heap[r]? := fun r hr => Below.heap_alloc w _ r (h3.frz r hr)
    refine ⟨_, _, .slice (some ⟨w.heap.size, 0, none⟩) n n, w.alloc (.cells ys e), .inl ?_, new_fz h3 nx _, ?_⟩
    · have e1' : Instr.fill (fun i => some (i * k, k)) ((Array.range (n * k)).map (Z[· % Z.size]!)) (ps.map fun (i, x) => (i, a.eval x)).toList = some ys := by rw [Array.toList_map]; exact e1
      rcases hZ1 with ⟨h0, rfl⟩ | ⟨h0, rfl⟩
      · simp only [execOp, Instr.buildSlice, Sem.run_bind, run_underlying hT.un, Result.andThen_ok, hT.size, show ¬ n * k > 2 ^ 24 by omega, if_false, if_pos h0, e1', newRow, run_newObj_alloc, Sem.run_pure]
      · simp only [execOp, Instr.buildSlice, Sem.run_bind, run_underlying hT.un, Result.andThen_ok, hT.size, show ¬ n * k > 2 ^ 24 by omega, if_false, if_neg h0, hz1, e1', newRow, run_newObj_alloc, Sem.run_pure]
    · simp only [Con]
      exact .inr ⟨w.heap.size, 0, ys.toList, n, .inr rfl, rfl, Nat.le_refl _, fun m hm => (by cases hm; rfl), ConL.mono ρ.le_refl (fun _ h => .inl h) hlt _ e2, at_new (xs := ys.toList), hd⟩
def Frz (C : Ctx) (T : AT) (H : AH) (T' : AT) (H' : AH) : Prop :=
  ∀ ρ Φ (tmps : Array Value) w, TmpsAt ρ Φ w T C.nt tmps → Mem C.Wr C.w0 ρ Φ (gt H) w → ∃ Φ', Fz.le Φ Φ' ∧ TmpsAt ρ Φ' w T' C.nt tmps ∧ Mem C.Wr C.w0 ρ Φ' (gt H') w ∧ (∀ r, Φ' r → Φ r ∨ C.w0.heap.size ≤ r ∨ C.Wr r) ∧ Dk Φ w Φ' w
theorem Frz.refl : Frz C T H T H := fun _ Φ _ _ h k => ⟨Φ, Fz.le_refl _, h, k, fun _ h => .inl h, Dk.refl _ _⟩
theorem Frz.trans {T' T'' : AT} {H' H'' : AH} (h : Frz C T H T' H') (k : Frz C T' H' T'' H'') : Frz C T H T'' H'' := fun ρ Φ tmps w h1 h2 =>
  let ⟨_, e1, e2, e3, e4, e5⟩ := h ρ Φ tmps w h1 h2; let ⟨Φ2, f1, f2, f3, f4, f5⟩ := k ρ _ tmps w e2 e3; ⟨Φ2, Fz.le_trans e1 f1, f2, f3, fun r hr => (f4 r hr).elim (e4 r) .inr, e5.trans f5⟩
theorem Frz.fr (b : Nat) {cs : List AV} {t : TypeId} (hg : gt H b = some (.cells cs t)) (hd : dataL cs) : Frz C T H (frT b cs T) ((b, none) :: frH b cs H) := fun ρ Φ tmps w htm0 hmem => by
  obtain ⟨x, o, h1, h2, pre, xs, rest, h3, h4, h5, h6⟩ := hmem.at_ b _ hg
  have hm := hmem.freeze h1 (by rw [hg]; simp)
  have hle : Fz.le Φ (fun r => Φ r ∨ r = x.1) := fun _ hr => .inl hr
  have hxs := h3.mono ρ.le_refl hle (fun _ _ => rfl)
  have hat : At w x.1 x.2.1 xs := h4 ▸ at_of_cells (h6 ▸ h2)
  have htm := (htm0.mono ρ.le_refl hle (fun _ _ => rfl)).fr h1 (.inr rfl) hxs hat hd
  refine ⟨_, hle, htm, ?_, fun r hr => hr.imp id fun (e : r = x.1) => by rw [e]; exact (hmem.own b x (by rw [hg]; simp) h1).symm, hmem.dkFreeze hg h1⟩
  have hn : ∀ c, gt ((b, none) :: frH b cs H) c ≠ none → upG (gt H) b none c ≠ none := fun c hc => by
    rw [gt_upG] at hc; unfold upG at hc ⊢
    split at hc
    · exact absurd rfl hc
    · rename_i e; rw [if_neg e]; rw [frH_gt] at hc; intro e2; rw [e2] at hc; exact hc rfl
  refine ⟨fun c k hc => ?_, fun c c' y y' e1 e2 => hm.inj c c' y y' (hn c e1) (hn c' e2), fun c y e1 => hm.free c y (hn c e1), fun c y e1 => hm.own c y (hn c e1), hm.frz, hm.keep⟩
  rw [gt_upG] at hc; unfold upG at hc
  split at hc
  · cases hc
  · rename_i e
    rw [frH_gt] at hc
    cases e2 : gt H c with
    | none => rw [e2] at hc; cases hc
    | some k' =>
      rw [e2] at hc; cases hc
      obtain ⟨y, ob, e3, e4, e5⟩ := hm.at_ c k' (by unfold upG; rw [if_neg e]; exact e2)
      exact ⟨y, ob, e3, e4, e5.fr h1 (.inr rfl) hxs hat hd⟩
theorem con_outS {ρ : Env} {Φ : Fz} {w : World} {b n z : Nat} {x : Value} : Con ρ Φ w (.out b (n + 1) z) x ↔ Con ρ Φ w (.sliceo b 0 (n + 1) z) x := by
  simp only [Con]
  exact ⟨fun h => h.elim (fun h => absurd h.1 (Nat.succ_ne_zero _)) (·.2), fun h => .inr ⟨Nat.succ_ne_zero _, h⟩⟩
theorem con_out0 {ρ : Env} {Φ : Fz} {w : World} {b z : Nat} {x : Value} : Con ρ Φ w (.out b 0 z) x ↔ Con ρ Φ w .nils x := by
  simp only [Con]
  exact ⟨fun h => h.elim (·.2) fun h => absurd rfl h.1, fun h => .inl ⟨trivial, h⟩⟩
theorem le_nils_out {b z : Nat} : AV.le .nils (.out b 0 z) := fun _ _ _ _ h => con_out0.2 h
theorem le_sliceo_out {b n z : Nat} (hn : n ≠ 0) : AV.le (.sliceo b 0 n z) (.out b n z) := fun ρ Φ w x h => by
  obtain ⟨m, rfl⟩ := Nat.exists_eq_succ_of_ne_zero hn; exact con_outS.2 h
theorem OpU.weakT {o : Oper} {v : AV} {ups : AH} {nx' : Nat} {T' : AT} (hT : ∀ ρ Φ w tmps, TmpsAt ρ Φ w T C.nt tmps → TmpsAt ρ Φ w T' C.nt tmps) (h : OpU C o T' H nx v ups nx') : OpU C o T H nx v ups nx' :=
  fun ρ Φ a w h1 h2 h3 => h ρ Φ a w h1 (hT ρ Φ w a.tmps h2) h3
theorem OpU.weakV {o : Oper} {v v' : AV} {ups : AH} {nx' : Nat} (hv : v.le v') (h : OpU C o T H nx v ups nx') : OpU C o T H nx v' ups nx' :=
  fun ρ Φ a w h1 h2 h3 K Q k => h ρ Φ a w h1 h2 h3 K Q fun ρ' Φ' x w' hp hx => k ρ' Φ' x w' hp (hv _ _ _ _ hx)
def chT (t : Nat) (v : AV) : AT → AT
  | [] => []
  | (i, u) :: l => if i.beq t then (i, v) :: chT t v l else (i, u) :: chT t v l
theorem lk_chT {t : Nat} {v : AV} : ∀ {T : AT} {i : Nat}, lk (chT t v T) i = if i = t then (lk T i).map (fun _ => v) else lk T i
  | [], i => by simp [chT, lk]
  | (j, u) :: T, i => by
    simp only [chT]
    by_cases e : j = t
    · subst e
      simp only [Nat.beq_refl, if_true, lk_cons]
      by_cases e2 : j = i
      · subst e2; simp
      · rw [if_neg e2, if_neg e2]; exact lk_chT (T := T)
    · rw [if_neg (by simpa using e)]
      simp only [lk_cons]
      by_cases e2 : j = i
      · subst e2; simp [e]
      · rw [if_neg e2, if_neg e2]; exact lk_chT (T := T)
theorem tmps_chT {t : Nat} {u v : AV} (hu : lk T t = some u) (hle : u.le v) (ρ : Env) (Φ : Fz) (w : World) (tmps : Array Value) (h : TmpsAt ρ Φ w T C.nt tmps) : TmpsAt ρ Φ w (chT t v T) C.nt tmps :=
  ⟨h.size, fun i q hi => by
    rw [lk_chT] at hi
    split at hi
    · rename_i e; subst e
      rw [hu] at hi; cases hi
      obtain ⟨x, h1, h2⟩ := h.at_ _ _ hu
      exact ⟨x, hle _ _ _ _ h1, h2⟩
    · exact h.at_ i q hi⟩
theorem ev_ch {t : Nat} {u v : AV} (hu : lk T t = some u) : ev (chT t v T) (.tmp t) = some v := by
  simp only [ev, lk_chT, if_true, hu, Option.map_some]
theorem ev_ch_ne {t : Nat} {v : AV} {y : Operand} {u : AV} (h : ev T y = some u) (hne : y ≠ .tmp t) : ev (chT t v T) y = some u := by
  cases y with
  | tmp i => simp only [ev, lk_chT] at h ⊢; rw [if_neg (fun e => hne (by rw [e]))]; exact h
  | _ => exact h
theorem U_appendO {sT xT e e' z n m b t : Nat} {y : Operand} {v : AV} {cs cs' news : List AV} [hT : TySl C.P sT e z] [hX : TySl C.P xT e' z] [hE : TyElem C.P e z] (hx : lk T t = some (.out b n z)) (hy : ev T y = some v) (hne : y ≠ .tmp t) (hg : gt H b = outB cs e n) (hl : cs.length = n * z) (h2 : srcS z H v = some (news, m + 1))
    (h1 : news.all AV.one = true) (hlim : n + (m + 1) ≤ 1000000) (hc : cs ++ news = cs') :
    OpU C ⟨d, .call ⟨.builtin .append, #[.tmp t, y], #[sT, xT]⟩, ty, pos, after, g⟩ T H nx (.out nx (n + (m + 1)) z) [(nx, outB cs' e (n + (m + 1))), (b, none)] (nx + 1) := by
  cases n with
  | zero =>
    have h := U_appendOut (C := C) (T := chT t (outV b z 0) T) (H := H) (nx := nx) (d := d) (ty := ty) (pos := pos) (after := after) (g := g) (sT := sT) (xT := xT) (n := 0) (b := b) (ev_ch hx) (ev_ch_ne hy hne) hg hl h2 h1 hlim hc
    refine OpU.weakT (fun ρ Φ w tmps k => tmps_chT hx (fun _ _ _ _ h => con_out0.1 h) ρ Φ w tmps k) (OpU.weakV ?_ h)
    rw [show 0 + (m + 1) = m + 1 by omega]
    exact fun _ _ _ _ h => con_outS.2 h
  | succ n =>
    have h := U_appendOut (C := C) (T := chT t (outV b z (n + 1)) T) (H := H) (nx := nx) (d := d) (ty := ty) (pos := pos) (after := after) (g := g) (sT := sT) (xT := xT) (n := n + 1) (b := b) (ev_ch hx) (ev_ch_ne hy hne) hg hl h2 h1 hlim hc
    refine OpU.weakT (fun ρ Φ w tmps k => tmps_chT hx (fun _ _ _ _ h => con_outS.1 h) ρ Φ w tmps k) (OpU.weakV ?_ h)
    rw [show n + 1 + (m + 1) = (n + 1 + m) + 1 by omega]
    exact fun _ _ _ _ h => con_outS.2 h
theorem U_appendN {sT xT e e' z m : Nat} {x y : Operand} {v : AV} {news : List AV} [hT : TySl C.P sT e z] [hX : TySl C.P xT e' z] [hE : TyElem C.P e z] (hx : ev T x = some .nils) (hy : ev T y = some v) (h2 : srcS z H v = some (news, m + 1)) (hlim : m + 1 ≤ 1000000) :
    OpU C ⟨d, .call ⟨.builtin .append, #[x, y], #[sT, xT]⟩, ty, pos, after, g⟩ T H nx (.out nx (m + 1) z) [(nx, some (.cells news e))] (nx + 1) := by
  have h := U_appendGrow (C := C) (T := T) (H := H) (nx := nx) (d := d) (ty := ty) (pos := pos) (after := after) (g := g) (sT := sT) (xT := xT) (c := 0) (s := .nils) (olds := []) (n := 0) hx hy rfl h2 rfl (by omega) (by omega)
  rw [Nat.zero_add] at h
  exact OpU.weakV (fun _ _ _ _ h => con_outS.2 h) h
theorem U_appendR {sT xT e e' z n m c : Nat} {x y : Operand} {v : AV} {cs olds cs' news : List AV} [hT : TySl C.P sT e z] [hX : TySl C.P xT e' z] [hE : TyElem C.P e z] (hx : ev T x = some (.ros cs n (some c))) (hy : ev T y = some v) (h1 : srcS z H (.ros cs n (some c)) = some (olds, n)) (h2 : srcS z H v = some (news, m + 1)) (hgrow : c < n + (m + 1)) (hlim : n + (m + 1) ≤ 1000000) (hc : olds ++ news = cs') :
    OpU C ⟨d, .call ⟨.builtin .append, #[x, y], #[sT, xT]⟩, ty, pos, after, g⟩ T H nx (.out nx (n + (m + 1)) z) [(nx, some (.cells cs' e))] (nx + 1) := by
  subst hc
  exact OpU.weakV (le_sliceo_out (by omega)) (U_appendGrow hx hy h1 h2 rfl hgrow hlim)
theorem U_sliceO3 {t e z b n i : Nat} {hi mx : Operand} [hT : TySl C.P t e z] (hx : lk T i = some (.out b n z)) (hhi : bnd T 0 (some hi) = some (n : Int)) (hmx : bnd T 0 (some mx) = some (n : Int)) (n1 : hi ≠ .tmp i) (n2 : mx ≠ .tmp i) :
    OpU C ⟨d, .slice t (.tmp i) none (some hi) (some mx), ty, pos, after, g⟩ T H nx (.out b n z) [] nx := by
  have hb : ∀ {v : AV} {y : Operand}, bnd T 0 (some y) = some (n : Int) → y ≠ .tmp i → bnd (chT i v T) 0 (some y) = some (n : Int) := fun {v y} h hne => by
    simp only [bnd] at h ⊢
    split at h
    · rename_i k m e; rw [ev_ch_ne e hne]; exact h
    · cases h
  cases n with
  | zero => exact OpU.weakT (fun ρ Φ w tmps k => tmps_chT hx (fun _ _ _ _ h => con_out0.1 h) ρ Φ w tmps k) (OpU.weakV le_nils_out (U_sliceN3 (ev_ch hx) (hb hhi n1) (hb hmx n2)))
  | succ n =>
    exact OpU.of_value (by intro c; simp) fun ρ Φ a w h3 _ => by
      have hp := ev_con (x := .tmp i) h3 hx
      simp only [Con] at hp
      obtain ⟨y, k, e1, e3, e4, e2⟩ := (hp.resolve_left fun h => Nat.succ_ne_zero _ h.1).2
      have := run_sliceAt (P := C.P) (w := w) (t := t) (ad := some ⟨y.1, y.2.1 + 0, none⟩) (n := n + 1) (k := k) (l := 0) (h := n + 1) (m := n + 1) (lo := none) rfl (bnd_con h3 hhi) (mx := some (a.eval mx)) (hi := some (a.eval hi)) ⟨rfl, bnd_con h3 hmx⟩ (Nat.zero_le _) (Nat.le_refl _) (by omega)
      refine ⟨.slice (some ⟨y.1, y.2.1 + 0, none⟩) (n + 1) (n + 1), ?_, ?_⟩
      · simp only [execOp, e2, Sem.run_bind, Option.map_none, Option.map_some, this, Result.andThen_ok, Sem.run_pure]
        simp [add_at]
      · simp only [Con]
        refine .inr ⟨Nat.succ_ne_zero _, y, n + 1, e1, Nat.le_refl _, ?_, J⟩
        have : (n + 1) * z ≤ k * z := Nat.mul_le_mul_right z e3
        omega
theorem U_indexO {t : TypeId} {x i : Operand} {k : IntKind} {b n zz e z j : Nat} {m : Int} [hT : TySl C.P t e z] (hx : ev T x = some (.out b n zz)) (hi : ev T i = some (.int k m)) (hj : m = j) (hlt : j < n) :
    OpU C ⟨d, .indexAddr t x i, ty, pos, after, g⟩ T H nx (.ptr b (0 + j * z)) [] nx :=
  OpU.of_value (by intro c; simp) fun ρ Φ a w h2 _ => by
    subst hj
    have hp := ev_con h2 hx
    simp only [Con] at hp
    obtain ⟨y, k', hy, _, _, hp⟩ := (hp.resolve_left fun h => by omega).2
    refine ⟨.pointer (some ⟨y.1, y.2.1 + 0 + j * z, none⟩), ?_, ?_⟩
    · simp [execOp, hp, con_int (ev_con h2 hi), Instr.indexAt, asIntOf, run_underlying hT.un, hT.size, hlt, add_at]
    · simp only [Con]; exact ⟨y, hy, by rw [Nat.add_assoc]⟩
end ops
def entTo (σ : Nat → Nat) (n : Nat) (i : Nat) (v : AV) (T : AT) : Prop := ∃ u, lk T i = some u ∧ u.le (v.ren σ) ∧ v.belb n = true
theorem e_ {σ : Nat → Nat} {n i : Nat} {v : AV} {T : AT} (h : lk T i = some (v.ren σ)) (hb : v.belb n = true) : entTo σ n i v T := ⟨_, h, le_refl _, hb⟩
theorem eD {σ : Nat → Nat} {n i : Nat} {v : AV} {T : AT} (h : lk T i = some v) (hd : v.data) : entTo σ n i v T := ⟨_, h, by rw [ren_data v hd]; exact le_refl _, belb_data v hd⟩
theorem eW {σ : Nat → Nat} {n i : Nat} {u v : AV} {T : AT} (h : lk T i = some u) (hl : u.le (v.ren σ)) (hb : v.belb n = true) : entTo σ n i v T := ⟨_, h, hl, hb⟩
def toT (σ : Nat → Nat) (n : Nat) : AT → AT → Prop
  | [], _ => True
  | (i, v) :: l, T => entTo σ n i v T ∧ toT σ n l T
theorem toT_lk {σ : Nat → Nat} {n : Nat} : ∀ {T' T : AT}, toT σ n T' T → ∀ i v, lk T' i = some v → entTo σ n i v T
  | [], _, _, i, v, h => by cases h
  | (j, u) :: l, T, ⟨h1, h2⟩, i, v, h => by
    rw [lk_cons] at h
    split at h
    · rename_i e; subst e; cases h; exact h1
    · exact toT_lk h2 i v h
def rowTo (σ : Nat → Nat) (n b : Nat) (k : Option ABlk) (H : AH) : Prop := ∀ q, k = some q → gt H (σ b) = some (q.ren σ) ∧ b < n ∧ q.belb n = true
theorem r_ {σ : Nat → Nat} {n b : Nat} {q : ABlk} {H : AH} (h : gt H (σ b) = some (q.ren σ)) (hb : b.blt n = true) (hq : q.belb n = true) : rowTo σ n b (some q) H := fun _ e => by cases e; exact ⟨h, ltOf hb, hq⟩
theorem rD {σ : Nat → Nat} {n b : Nat} {cs : List AV} {t : TypeId} {H : AH} (hd : dataL cs) (h : gt H (σ b) = some (.cells cs t)) (hb : b.blt n = true) : rowTo σ n b (some (.cells cs t)) H := fun _ e => by
  cases e; exact ⟨by rw [h]; simp only [ABlk.ren, renL_data cs hd], ltOf hb, by simp only [ABlk.belb, belbL_data cs hd]⟩
theorem rO {σ : Nat → Nat} {n b m : Nat} {cs : List AV} {t : TypeId} {H : AH} (hd : dataL cs) (h : gt H (σ b) = outB cs t m) (hb : b.blt n = true) : rowTo σ n b (outB cs t m) H := by
  cases m with
  | zero => intro _ e; cases e
  | succ m => exact rD hd h hb
theorem rO0 {σ : Nat → Nat} {n b m : Nat} {cs : List AV} {t : TypeId} {H : AH} (h0 : m = 0) : rowTo σ n b (outB cs t m) H := by subst h0; intro _ e; cases e
def toH (σ : Nat → Nat) (n : Nat) : AH → AH → Prop
  | [], _ => True
  | (b, k) :: l, H => rowTo σ n b k H ∧ toH σ n l H
theorem toH_gt {σ : Nat → Nat} {n : Nat} : ∀ {H' H : AH}, toH σ n H' H → ∀ b q, gt H' b = some q → gt H (σ b) = some (q.ren σ) ∧ b < n ∧ q.belb n = true
  | [], _, _, i, v, h => by cases h
  | (j, u) :: l, H, ⟨h1, h2⟩, i, v, h => by
    rw [gt_cons] at h
    split at h
    · rename_i e; subst e; exact h1 v h
    · exact toH_gt h2 i v h
theorem keysIn : ∀ {H : AH} {b : Nat}, gt H b ≠ none → b ∈ H.map (·.1)
  | [], b, h => absurd rfl h
  | (c, u) :: H, b, h => by
    rw [gt_cons] at h
    by_cases e : c = b
    · simp [e]
    · rw [if_neg e] at h; simp only [List.map_cons, List.mem_cons]; exact .inr (keysIn h)
theorem Gh_to {C : Ctx} {T T' : AT} {H H' : AH} {nx n : Nat} {df : List Nat} (σ : Nat → Nat) (hT : toT σ n T' T) (hH : toH σ n H' H) (hi : injL σ (H'.map (·.1)) = true) (hdf : df.map σ = df) (bd : df.all (·.blt n) = true) (hk : C.k0.ble n = true) (hb : ∀ b, b < C.k0 → σ b = b) : Gh C ⟨T, H, nx, df⟩ ⟨T', H', n, df⟩ := fun ρ Φ a w h => by
  have up : ∀ b x, b < n → ρ (σ b) = some x → (if b < n then ρ (σ b) else none) = some x := fun b x e1 e2 => by rw [if_pos e1]; exact e2
  have dn : ∀ b x, (if b < n then ρ (σ b) else none) = some x → b < n ∧ ρ (σ b) = some x := fun b x e => by
    split at e
    · rename_i e1; exact ⟨e1, e⟩
    · cases e
  have live : ∀ c, gt H' c ≠ none → c < n ∧ gt H (σ c) ≠ none := fun c hc => by
    cases e : gt H' c with
    | none => exact absurd e hc
    | some k => obtain ⟨e1, e2, _⟩ := toH_gt hH c k e; exact ⟨e2, by rw [e1]; simp⟩
  have hdf' : (⟨T, H, nx, df⟩ : St).df = df.map σ := hdf.symm
  refine ⟨fun b => if b < n then ρ (σ b) else none, Φ, fun b hb => ?_, ⟨h.tm.size, fun i v hi => ?_⟩, ⟨fun b k hb => ?_, fun b b' x x' h1 h2 h3 h4 e => ?_, fun b x h1 h2 => ?_, fun b x h1 h2 => ?_, h.mem.frz, h.mem.keep⟩, h.df, h.fz, fun b h1 => ?_, Nat.le_of_ble_eq_true hk, h.dk⟩
  · have hb : (if b < n then ρ (σ b) else none) ≠ none := hb
    show b < n
    split at hb
    · assumption
    · exact absurd rfl hb
  · obtain ⟨u, e1, e2, e3⟩ := toT_lk hT i v hi
    obtain ⟨x, f1, f2⟩ := h.tm.at_ i u e1
    exact ⟨x, Con.unren up v e3 (e2 _ _ _ _ f1), f2⟩
  · obtain ⟨b0, b1, b2⟩ := toH_gt hH b k hb
    obtain ⟨x, o, e1, e2, e3⟩ := h.mem.at_ _ _ b0
    exact ⟨x, o, up b x b1 e1, e2, e3.unren up b2⟩
  · have l1 := live b h1; have l2 := live b' h2
    have := h.mem.inj _ _ x x' l1.2 l2.2 (dn b x h3).2 (dn b' x' h4).2 e
    exact injL_of hi b (keysIn h1) b' (keysIn h2) this
  · exact h.mem.free _ x (live b h1).2 (dn b x h2).2
  · exact h.mem.own _ x (live b h1).2 (dn b x h2).2
  · show (if b < n then ρ (σ b) else none) = _
    rw [if_pos (Nat.lt_of_lt_of_le h1 (Nat.le_of_ble_eq_true hk)), hb b h1]; exact h.base b h1
section
variable {C : Ctx} {c : Code} {Q : Exit → St → Prop} {T T' : AT} {H H' : AH} {nx n : Nat} {df : List Nat}
theorem Wto (σ : Nat → Nat) (hT : toT σ n T' T) (hH : toH σ n H' H) (hi : injL σ (H'.map (·.1)) = true) (hdf : df.map σ = df) (bd : df.all (·.blt n) = true) (hk : C.k0.ble n = true) (hb : ∀ b, b < C.k0 → σ b = b) (k : WpA C c Q ⟨T', H', n, df⟩) : WpA C c Q ⟨T, H, nx, df⟩ :=
  W_gh (Gh_to σ hT hH hi hdf bd hk hb) k
theorem Rto {ops : Array Oper} {i : Nat} {K : St → Prop} (σ : Nat → Nat) (hT : toT σ n T' T) (hH : toH σ n H' H) (hi : injL σ (H'.map (·.1)) = true) (hdf : df.map σ = df) (bd : df.all (·.blt n) = true) (hk : C.k0.ble n = true) (hb : ∀ b, b < C.k0 → σ b = b) (k : Reg C ops i K ⟨T', H', n, df⟩) : Reg C ops i K ⟨T, H, nx, df⟩ :=
  Reg_gh (Gh_to σ hT hH hi hdf bd hk hb) k
theorem joinTo (σ : Nat → Nat) (hT : toT σ n T' T) (hH : toH σ n H' H) (hi : injL σ (H'.map (·.1)) = true) (hdf : df.map σ = df) (bd : df.all (·.blt n) = true) (hk : C.k0.ble n = true) (hb : ∀ b, b < C.k0 → σ b = b) : (Exit.normal = .normal ∧ Gh C ⟨T, H, nx, df⟩ ⟨T', H', n, df⟩) := ⟨rfl, Gh_to σ hT hH hi hdf bd hk hb⟩
theorem LoopTo (h : c.tag = 6) (I : Nat → St → Prop) {m : Nat} (h0 : I m ⟨T', H', n, df⟩) (σ : Nat → Nat) (hT : toT σ n T' T) (hH : toH σ n H' H) (hi : injL σ (H'.map (·.1)) = true) (hdf : df.map σ = df) (bd : df.all (·.blt n) = true) (hk : C.k0.ble n = true) (hb : ∀ b, b < C.k0 → σ b = b) (round : ∀ n s, I n s → WpA C c.l (thenQ (againP C I n) Q) s) : WpA C c Q ⟨T, H, nx, df⟩ :=
  Wto σ hT hH hi hdf bd hk hb (Wloop h I h0 round)
theorem againTo {I : Nat → St → Prop} {k : Nat} (m : Nat) (hI : I m ⟨T', H', n, df⟩) (hm : m < k) (σ : Nat → Nat) (hT : toT σ n T' T) (hH : toH σ n H' H) (hi : injL σ (H'.map (·.1)) = true) (hdf : df.map σ = df) (bd : df.all (·.blt n) = true) (hk : C.k0.ble n = true) (hb : ∀ b, b < C.k0 → σ b = b) : againP C I k ⟨T, H, nx, df⟩ :=
  ⟨_, m, Gh_to σ hT hH hi hdf bd hk hb, hm, hI⟩
end
mutual
/-- Whether a value names a block. -/
def AV.nob (b : Nat) : AV → Bool
  | .ptr b' _ | .slice b' _ _ _ | .sliceo b' _ _ _ | .out b' _ _ | .mapl b' | .yld b' => !(b'.beq b)
  | .agg l | .tup l => nobL b l
  | .fn _ x y => nobL b x && nobL b y
  | _ => true
def nobL (b : Nat) : List AV → Bool
  | [] => true
  | v :: l => v.nob b && nobL b l
end
mutual
theorem fr_nob {b : Nat} {cs : List AV} : ∀ (v : AV), v.nob b = true → v.fr b cs = v
  | .bool _, _ | .int _ _, _ | .str _, _ | .nilp, _ | .nils, _ | .nilm, _ | .nilf, _ | .nili, _ | .rop _ _, _ | .ros _ _ _, _ | .rom _, _ | .mapl _, _ | .yld _, _ => rfl
  | .ptr b' _, h | .slice b' _ _ _, h | .sliceo b' _ _ _, h | .out b' _ _, h => by
    have h' : (b'.beq b) = false := by simpa [AV.nob] using h
    simp [AV.fr, h']
  | .agg l, h => by
    have h' : nobL b l = true := by simpa only [AV.nob] using h
    simp only [AV.fr, frL_nob l h']
  | .tup l, h => by
    have h' : nobL b l = true := by simpa only [AV.nob] using h
    simp only [AV.fr, frL_nob l h']
  | .fn f x y, h => by
    have h' : nobL b x = true ∧ nobL b y = true := by simpa only [AV.nob, Bool.and_eq_true] using h
    simp only [AV.fr, frL_nob x h'.1, frL_nob y h'.2]
theorem frL_nob {b : Nat} {cs : List AV} : ∀ (l : List AV), nobL b l = true → frL b cs l = l
  | [], _ => rfl
  | v :: l, h => by
    have h' : v.nob b = true ∧ nobL b l = true := by simpa only [nobL, Bool.and_eq_true] using h
    simp only [frL, fr_nob v h'.1, frL_nob l h'.2]
end
mutual
theorem nob_data {b : Nat} : ∀ (v : AV), v.data → v.nob b = true
  | .bool _, _ | .int _ _, _ | .str _, _ | .nilp, _ | .nils, _ | .nilm, _ | .nilf, _ | .nili, _ | .rop _ _, _ | .ros _ _ _, _ | .rom _, _ => rfl
  | .ptr _ _, d | .slice _ _ _ _, d | .sliceo _ _ _ _, d | .out _ _ _, d | .mapl _, d | .yld _, d => by cases d
  | .agg cs, d => by
    have d' : isdL cs = true := by simpa [AV.data, AV.isd] using d
    simp only [AV.nob, nobL_data cs d']
  | .tup cs, d => by
    have d' : isdL cs = true := by simpa [AV.data, AV.isd] using d
    simp only [AV.nob, nobL_data cs d']
  | .fn f a b, d => by
    have d' : isdL a = true ∧ isdL b = true := by simpa [AV.data, AV.isd] using d
    simp only [AV.nob, nobL_data a d'.1, nobL_data b d'.2, Bool.and_self]
theorem nobL_data {b : Nat} : ∀ (l : List AV), dataL l → nobL b l = true
  | [], _ => rfl
  | v :: l, d => by
    have d' := dataL_cons.1 d
    simp only [nobL, nob_data v d'.1, nobL_data l d'.2, Bool.and_self]
end
theorem lk_frT {b : Nat} {cs : List AV} : ∀ {T : AT} {i : Nat}, lk (frT b cs T) i = (lk T i).map (AV.fr b cs)
  | [], i => rfl
  | (j, u) :: T, i => by
    simp only [frT, lk_cons]; split
    · rfl
    · exact lk_frT
inductive FrO (b n z : Nat) (cs : List AV) : AV → AV → Prop where
  | same {v : AV} (h : v.nob b = true) : FrO b n z cs v v
  | out : FrO b n z cs (.out b n z) (.ros cs n none)
  | nil (h : n = 0) : FrO b n z cs .nils (.ros cs n none)
inductive FrOL (b n z : Nat) (cs : List AV) : List AV → List AV → Prop where
  | nil : FrOL b n z cs [] []
  | cons {v v' : AV} {l l' : List AV} (h : FrO b n z cs v v') (k : FrOL b n z cs l l') : FrOL b n z cs (v :: l) (v' :: l')
theorem FrOL.same {b n z : Nat} {cs : List AV} : ∀ {l : List AV}, nobL b l = true → FrOL b n z cs l l
  | [], _ => .nil
  | v :: l, h => by
    have h' : v.nob b = true ∧ nobL b l = true := by simpa only [nobL, Bool.and_eq_true] using h
    exact .cons (.same h'.1) (FrOL.same h'.2)
theorem FrO.le0 {b z : Nat} {cs : List AV} {v v' : AV} (h : FrO b 0 z cs v v') : v.le v' := by
  cases h with
  | same => exact le_refl _
  | out => exact fun _ _ _ _ h => le_nils _ _ _ _ (con_out0.1 h)
  | nil => exact le_nils
theorem FrOL.le0 {b z : Nat} {cs : List AV} : ∀ {l l' : List AV}, FrOL b 0 z cs l l' → leL l l'
  | _, _, .nil => leL_refl _
  | _, _, .cons h k => leL_cons h.le0 (FrOL.le0 k)
theorem FrO.eqS {b n z : Nat} {cs : List AV} {v v' : AV} (h : FrO b (n + 1) z cs v v') : v.fr b cs = v' := by
  cases h with
  | same h => exact fr_nob _ h
  | out => show (if b.beq b then AV.ros (cs.drop 0) (n + 1) none else _) = _; rw [if_pos (by simp)]; rfl
  | nil h => cases h
theorem FrOL.eqS {b n z : Nat} {cs : List AV} : ∀ {l l' : List AV}, FrOL b (n + 1) z cs l l' → frL b cs l = l'
  | _, _, .nil => rfl
  | _, _, .cons h k => by simp only [frL, h.eqS, FrOL.eqS k]
inductive FrOB (b n z : Nat) (cs : List AV) : Option ABlk → Option ABlk → Prop where
  | none {k : Option ABlk} : FrOB b n z cs k none
  | cells {l l' : List AV} {t : TypeId} (h : FrOL b n z cs l l') : FrOB b n z cs (some (.cells l t)) (some (.cells l' t))
  | out {l : List AV} {t : TypeId} {m : Nat} (h : dataL l) : FrOB b n z cs (outB l t m) (outB l t m)
def frOT (b n z : Nat) (cs : List AV) : AT → AT → Prop
  | [], _ => True
  | (i, v) :: l, T => (∃ u, lk T i = some u ∧ FrO b n z cs u v) ∧ frOT b n z cs l T
def frOH (b n z : Nat) (cs : List AV) : AH → AH → Prop
  | [], _ => True
  | (i, k) :: l, H => (i.beq b = false ∧ FrOB b n z cs (gt H i) k) ∧ frOH b n z cs l H
theorem frOT_lk {b n z : Nat} {cs : List AV} : ∀ {T' T : AT}, frOT b n z cs T' T → ∀ i v, lk T' i = some v → ∃ u, lk T i = some u ∧ FrO b n z cs u v
  | [], _, _, i, v, h => by cases h
  | (j, u) :: l, T, ⟨h1, h2⟩, i, v, h => by
    rw [lk_cons] at h
    split at h
    · rename_i e; subst e; cases h; exact h1
    · exact frOT_lk h2 i v h
theorem frOH_gt {b n z : Nat} {cs : List AV} : ∀ {H' H : AH}, frOH b n z cs H' H → ∀ i q, gt H' i = some q → i ≠ b ∧ FrOB b n z cs (gt H i) (some q)
  | [], _, _, i, v, h => by cases h
  | (j, u) :: l, H, ⟨h1, h2⟩, i, v, h => by
    rw [gt_cons] at h
    split at h
    · rename_i e; subst e; subst h; exact ⟨by rintro rfl; simp at h1, h1.2⟩
    · exact frOH_gt h2 i v h
theorem FrOB.inv {b n z : Nat} {cs : List AV} {k : Option ABlk} {q : ABlk} (h : FrOB b n z cs k (some q)) : ∃ l l' t, k = some (.cells l t) ∧ q = .cells l' t ∧ FrOL b n z cs l l' := by
  generalize e : some q = r at h
  cases h with
  | none => cases e
  | cells h => cases e; exact ⟨_, _, _, rfl, rfl, h⟩
  | @out l t m h =>
    cases m with
    | zero => cases e
    | succ m => cases e; exact ⟨l, l, t, rfl, rfl, .same (nobL_data l h)⟩
theorem BlkAt.leCells {ρ : Env} {Φ : Fz} {w : World} {x : Nat × Nat × Nat} {l l' : List AV} {t : TypeId} {o : Obj} (hl : leL l l') (h : BlkAt ρ Φ w x (.cells l t) o) : BlkAt ρ Φ w x (.cells l' t) o := by
  obtain ⟨pre, xs, rest, h1, h2⟩ := h; exact ⟨pre, xs, rest, hl _ _ _ _ h1, h2⟩
theorem Gh_frO {C : Ctx} {T T' : AT} {H H' : AH} {nx : Nat} {df : List Nat} {b n z : Nat} {cs : List AV} {t : TypeId} (hg : gt H b = outB cs t n) (hd : dataL cs) (hT : frOT b n z cs T' T) (hH : frOH b n z cs H' H) : Gh C ⟨T, H, nx, df⟩ ⟨T', H', nx, df⟩ := by
  cases n with
  | zero =>
    intro ρ Φ a w h
    refine ⟨ρ, Φ, h.dom, ⟨h.tm.size, fun i v hi => ?_⟩, ?_, h.df, h.fz, h.base, h.kn, h.dk⟩
    · obtain ⟨u, e1, e2⟩ := frOT_lk hT i v hi
      obtain ⟨x, f1, f2⟩ := h.tm.at_ i u e1
      exact ⟨x, e2.le0 _ _ _ _ f1, f2⟩
    · have hn : ∀ c, gt H' c ≠ none → gt H c ≠ none := fun c hc => by
        cases e : gt H' c with
        | none => exact absurd e hc
        | some q => obtain ⟨_, e2⟩ := frOH_gt hH c q e; obtain ⟨l, l', t, e3, _⟩ := e2.inv; rw [e3]; simp
      refine ⟨fun c k hc => ?_, fun c c' y y' e1 e2 => h.mem.inj c c' y y' (hn c e1) (hn c' e2), fun c y e1 => h.mem.free c y (hn c e1), fun c y e1 => h.mem.own c y (hn c e1), h.mem.frz, h.mem.keep⟩
      obtain ⟨_, e2⟩ := frOH_gt hH c k hc
      obtain ⟨l, l', t, e3, rfl, e4⟩ := e2.inv
      obtain ⟨y, o, f1, f2, f3⟩ := h.mem.at_ c _ e3
      exact ⟨y, o, f1, f2, f3.leCells e4.le0⟩
  | succ n =>
    have hg' : gt H b = some (.cells cs t) := hg
    intro ρ Φ a w h
    obtain ⟨Φ', q1, q2, q3, q4, q5⟩ := Frz.fr (C := C) (T := T) (H := H) b hg' hd ρ Φ a.tmps w h.tm h.mem
    refine ⟨ρ, Φ', h.dom, ⟨h.tm.size, fun i v hi => ?_⟩, q3.less fun c k hc => ?_, h.df.mono q5, ⟨fun r hr => (q4 r hr).elim (h.fz.1 r) .inr, Fz.le_trans h.fz.2 q1⟩, h.base, h.kn, h.dk.trans q5⟩
    · obtain ⟨u, e1, e2⟩ := frOT_lk hT i v hi
      refine q2.at_ i v ?_
      rw [lk_frT, e1]; simp only [Option.map_some, e2.eqS]
    · obtain ⟨e1, e2⟩ := frOH_gt hH c k hc
      obtain ⟨l, l', t, e3, rfl, e4⟩ := e2.inv
      rw [gt_cons, if_neg (fun e => e1 e.symm), frH_gt, e3]
      simp only [Option.map_some, ABlk.fr, e4.eqS]
section
variable {C : Ctx} {c : Code} {Q : Exit → St → Prop} {T T' : AT} {H H' : AH} {nx : Nat} {df : List Nat} {b n z : Nat} {cs : List AV} {t : TypeId}
theorem WfrO (b : Nat) (cs : List AV) (hg : gt H b = outB cs t n) (hd : dataL cs) (hT : frOT b n z cs T' T) (hH : frOH b n z cs H' H) (k : WpA C c Q ⟨T', H', nx, df⟩) : WpA C c Q ⟨T, H, nx, df⟩ := W_gh (Gh_frO hg hd hT hH) k
theorem fS {b n z i : Nat} {cs : List AV} {v : AV} {T : AT} (h : lk T i = some v) (hv : v.nob b = true) : ∃ u, lk T i = some u ∧ FrO b n z cs u v := ⟨v, h, .same hv⟩
theorem fD {b n z i : Nat} {cs : List AV} {v : AV} {T : AT} (h : lk T i = some v) (hv : v.data) : ∃ u, lk T i = some u ∧ FrO b n z cs u v := ⟨v, h, .same (nob_data v hv)⟩
theorem fO {b n z i : Nat} {cs : List AV} {T : AT} (h : lk T i = some (.out b n z)) : ∃ u, lk T i = some u ∧ FrO b n z cs u (.ros cs n none) := ⟨_, h, .out⟩
end
end Go.AE
end

section
namespace Go.AE
open Go.RowKit
def frTT (b : Nat) (cs : List AV) : AT → AT → Prop
  | [], _ => True
  | (i, v) :: l, T => (∃ u, lk T i = some u ∧ u.fr b cs = v) ∧ frTT b cs l T
theorem frTT_lk {b : Nat} {cs : List AV} : ∀ {T' T : AT}, frTT b cs T' T → ∀ i v, lk T' i = some v → ∃ u, lk T i = some u ∧ u.fr b cs = v
  | [], _, _, i, v, h => by cases h
  | (j, u) :: l, T, ⟨h1, h2⟩, i, v, h => by
    rw [lk_cons] at h
    split at h
    · rename_i e; subst e; cases h; exact h1
    · exact frTT_lk h2 i v h
def RowF (b : Nat) (cs : List AV) (k k' : Option ABlk) : Prop := ∀ q, k' = some q → ∃ q', k = some q' ∧ q'.fr b cs = q
theorem rF {b : Nat} {cs : List AV} {k : Option ABlk} {q' q : ABlk} (h : k = some q') (e : q'.fr b cs = q) : RowF b cs k (some q) := fun _ h' => by cases h'; exact ⟨q', h, e⟩
theorem rFO {b m : Nat} {cs l : List AV} {t : TypeId} {k : Option ABlk} (hd : dataL l) (h : k = outB l t m) : RowF b cs k (outB l t m) := by
  cases m with
  | zero => intro _ e; cases e
  | succ m => exact rF h (by simp only [ABlk.fr, frL_nob l (nobL_data l hd)])
theorem rFD {b : Nat} {cs l : List AV} {t : TypeId} {k : Option ABlk} (hd : dataL l) (h : k = some (.cells l t)) : RowF b cs k (some (.cells l t)) := rF h (by simp only [ABlk.fr, frL_nob l (nobL_data l hd)])
def frHH (b : Nat) (cs : List AV) : AH → AH → Prop
  | [], _ => True
  | (i, k) :: l, H => (i.beq b = false ∧ RowF b cs (gt H i) k) ∧ frHH b cs l H
theorem frHH_gt {b : Nat} {cs : List AV} : ∀ {H' H : AH}, frHH b cs H' H → ∀ i q, gt H' i = some q → i ≠ b ∧ ∃ q', gt H i = some q' ∧ q'.fr b cs = q
  | [], _, _, i, v, h => by cases h
  | (j, u) :: l, H, ⟨h1, h2⟩, i, v, h => by
    rw [gt_cons] at h
    split at h
    · rename_i e; subst e; exact ⟨by rintro rfl; simp at h1, h1.2 v h⟩
    · exact frHH_gt h2 i v h
theorem Gh_frz {C : Ctx} {T T1 T' : AT} {H H1 H' : AH} {nx : Nat} {df : List Nat} (hz : Frz C T H T1 H1) (hT : ∀ i v, lk T' i = some v → lk T1 i = some v) (hH : ∀ b k, gt H' b = some k → gt H1 b = some k) : Gh C ⟨T, H, nx, df⟩ ⟨T', H', nx, df⟩ := fun ρ Φ a w h => by
  obtain ⟨Φ', q1, q2, q3, q4, q5⟩ := hz ρ Φ a.tmps w h.tm h.mem
  exact ⟨ρ, Φ', h.dom, ⟨h.tm.size, fun i v hi => q2.at_ i v (hT i v hi)⟩, q3.less hH, h.df.mono q5, ⟨fun r hr => (q4 r hr).elim (h.fz.1 r) .inr, Fz.le_trans h.fz.2 q1⟩, h.base, h.kn, h.dk.trans q5⟩
theorem Gh_frN {C : Ctx} {T T' : AT} {H H' : AH} {nx : Nat} {df : List Nat} {cs : List AV} {t : TypeId} (b : Nat) (hg : gt H b = some (.cells cs t)) (hd : dataL cs) (hT : frTT b cs T' T) (hH : frHH b cs H' H) : Gh C ⟨T, H, nx, df⟩ ⟨T', H', nx, df⟩ :=
  Gh_frz (Frz.fr b hg hd) (fun i v hi => by obtain ⟨u, e1, rfl⟩ := frTT_lk hT i v hi; rw [lk_frT, e1]; rfl)
    fun c k hc => by obtain ⟨e1, q', e2, rfl⟩ := frHH_gt hH c k hc; rw [gt_cons, if_neg (fun e => e1 e.symm), frH_gt, e2]; rfl
section
variable {C : Ctx} {c : Code} {Q : Exit → St → Prop} {T T' : AT} {H H' : AH} {nx : Nat} {df : List Nat} {cs : List AV} {t : TypeId}
theorem WfrN (b : Nat) (hg : gt H b = some (.cells cs t)) (hd : dataL cs) (hT : frTT b cs T' T) (hH : frHH b cs H' H) (k : WpA C c Q ⟨T', H', nx, df⟩) : WpA C c Q ⟨T, H, nx, df⟩ := W_gh (Gh_frN b hg hd hT hH) k
end
section ops
variable {C : Ctx} {T : AT} {H : AH} {nx : Nat} {d : Option Tmp} {ty : TypeId} {pos : String} {after : Array Edge} {g : Option (Nat × Bool)}
theorem U_appO {sT xT e e' z n m n' b t : Nat} {y : Operand} {v : AV} {cs cs' news : List AV} [hT : TySl C.P sT e z] [hX : TySl C.P xT e' z] [hE : TyElem C.P e z] (hx : lk T t = some (.out b n z)) (hy : ev T y = some v) (hne : y ≠ .tmp t) (hg : gt H b = outB cs e n) (hl : cs.length = n * z) (h2 : srcS z H v = some (news, m + 1))
    (h1 : news.all AV.one = true) (hlim : n + (m + 1) ≤ 1000000) (hc : cs ++ news = cs') (hn : n + (m + 1) = n') :
    OpU C ⟨d, .call ⟨.builtin .append, #[.tmp t, y], #[sT, xT]⟩, ty, pos, after, g⟩ T H nx (.out nx n' z) [(nx, outB cs' e n'), (b, none)] (nx + 1) := by
  subst hn; exact U_appendO hx hy hne hg hl h2 h1 hlim hc
theorem U_appN {sT xT e e' z m n' : Nat} {x y : Operand} {v : AV} {cs' news : List AV} [hT : TySl C.P sT e z] [hX : TySl C.P xT e' z] [hE : TyElem C.P e z] (hx : ev T x = some .nils) (hy : ev T y = some v) (h2 : srcS z H v = some (news, m + 1)) (hlim : m + 1 ≤ 1000000) (hc : news = cs') (hn : m + 1 = n') :
    OpU C ⟨d, .call ⟨.builtin .append, #[x, y], #[sT, xT]⟩, ty, pos, after, g⟩ T H nx (.out nx n' z) [(nx, outB cs' e n')] (nx + 1) := by
  subst hn; subst hc; exact U_appendN hx hy h2 hlim
theorem U_appR {sT xT e e' z n m c n' : Nat} {x y : Operand} {v : AV} {cs cs' news : List AV} [hT : TySl C.P sT e z] [hX : TySl C.P xT e' z] [hE : TyElem C.P e z] (hx : ev T x = some (.ros cs n (some c))) (hy : ev T y = some v) (hl : cs.length = n * z) (h2 : srcS z H v = some (news, m + 1)) (hgrow : c < n + (m + 1)) (hlim : n + (m + 1) ≤ 1000000) (hc : cs ++ news = cs') (hn : n + (m + 1) = n') :
    OpU C ⟨d, .call ⟨.builtin .append, #[x, y], #[sT, xT]⟩, ty, pos, after, g⟩ T H nx (.out nx n' z) [(nx, outB cs' e n')] (nx + 1) := by
  subst hn; subst hc
  have := U_appendR (C := C) (T := T) (H := H) (nx := nx) (d := d) (ty := ty) (pos := pos) (after := after) (g := g) (e := e) (sT := sT) (xT := xT) (olds := cs) hx hy (by simp only [srcS, hl, Nat.le_refl, if_true]; rw [List.take_of_length_le (by omega)]) h2 hgrow hlim rfl
  exact this
end ops
theorem flat_len {α : Type} {f : α → List AV} {z : Nat} (hf : ∀ e, (f e).length = z) : ∀ (l : List α), (l.flatMap f).length = l.length * z
  | [] => by simp
  | e :: l => by simp only [List.flatMap_cons, List.length_append, hf, flat_len hf l, List.length_cons, Nat.add_mul, Nat.one_mul]; omega
theorem map_len1 {α : Type} {g : α → AV} (l : List α) : (l.map g).length = l.length * 1 := by simp
theorem getM {α : Type} {g : α → AV} {l : List α} {k : Nat} (h : k < l.length) : (l.map g)[k * 1]? = some (g l[k]) := by simp [h]
theorem getM0 {α : Type} {g : α → AV} {l : List α} {k : Nat} (h : k < l.length) : (l.map g)[0 + k * 1]? = some (g l[k]) := by simp [h]
theorem mapD {α : Type} {g : α → AV} (hg : ∀ x, (g x).data) (l : List α) : dataL (l.map g) := dataL_map fun x _ => hg x
theorem flatD {α : Type} {f : α → List AV} (hf : ∀ x, dataL (f x)) (l : List α) : dataL (l.flatMap f) := dataL_flatMap fun x _ => hf x
theorem appM {α : Type} {g : α → AV} (l : List α) (x : α) : l.map g ++ [g x] = (l ++ [x]).map g := by simp
theorem appF {α : Type} {f : α → List AV} (l : List α) (x : α) : l.flatMap f ++ f x = (l ++ [x]).flatMap f := by simp
theorem len1 {α : Type} (l : List α) (x : α) : l.length + (0 + 1) = (l ++ [x]).length := by simp
end Go.AE
end

section
namespace Go.AE
open Go.RowKit
theorem tmodN (a b : Nat) : (a : Int).tmod b = ((a % b : Nat) : Int) := by rw [Int.tmod_eq_emod_of_nonneg (by omega)]; rfl
section
variable {P : Program} {T : AT} {H : AH} {nx : Nat}
end
section ops
variable {C : Ctx} {T : AT} {H : AH} {nx : Nat} {d : Option Tmp} {ty : TypeId} {pos : String} {after : Array Edge} {g : Option (Nat × Bool)}
theorem le_rosL {cs cs' : List AV} {n : Nat} (hd : dataL cs') (hn : ∀ (ρ : Env) Φ w r base xs, ConL ρ Φ w cs xs → At w r base xs → ∃ xs', ConL ρ Φ w cs' xs' ∧ At w r base xs') : AV.le (.ros cs n none) (.ros cs' n none) := fun ρ Φ w x h => by
  simp only [Con] at h ⊢
  rcases h with ⟨h1, h2, h3⟩ | ⟨r, base, xs, k, h1, h2, h3, h4, h5, h6, h7⟩
  · exact .inl ⟨h1, h2, h3⟩
  · obtain ⟨xs', e1, e2⟩ := hn ρ Φ w r base xs h5 h6
    exact .inr ⟨r, base, xs', k, h1, h2, h3, h4, e1, e2, hd⟩
theorem le_rosT {cs : List AV} {n m : Nat} (hd : dataL cs) : AV.le (.ros cs n none) (.ros (cs.take m) n none) :=
  le_rosL (dataL_take hd m) fun ρ Φ w r base xs h1 h2 => ⟨xs.take m, conL_take m h1, fun i v hi => h2 i v (by
    obtain ⟨hl, he⟩ := List.getElem?_eq_some_iff.1 hi
    rw [List.getElem_take] at he
    exact List.getElem?_eq_some_iff.2 ⟨by simp at hl; omega, he⟩)⟩
theorem U_sliceToL {t e z n h : Nat} {c : Option Nat} {x hi : Operand} {cs cs' : List AV} [hT : TySl C.P t e z] (hx : ev T x = some (.ros cs n c)) (hhi : bnd T 0 (some hi) = some (h : Int)) (h2 : h ≤ n) (hd : dataL cs) (hc : cs.take (h * z) = cs') :
    OpU C ⟨d, .slice t x none (some hi) none, ty, pos, after, g⟩ T H nx (.ros cs' h none) [] nx := by
  subst hc; exact OpU.weakV (le_rosT hd) (U_sliceTo hx hhi h2)
theorem takeM {α : Type} {g : α → AV} (l : List α) (k : Nat) : (l.map g).take (k * 1) = (l.take k).map g := by simp [List.map_take]
theorem U_appO0 {sT xT e e' z n m n' b t : Nat} {y : Operand} {v : AV} {cs cs' news : List AV} [hT : TySl C.P sT e z] [hX : TySl C.P xT e' z] [hE : TyElem C.P e z] (hx : lk T t = some (.out b n z)) (h0 : n = 0) (hy : ev T y = some v) (hne : y ≠ .tmp t) (hl : cs.length = n * z) (h2 : srcS z H v = some (news, m + 1))
    (hlim : n + (m + 1) ≤ 1000000) (hc : cs ++ news = cs') (hn : n + (m + 1) = n') :
    OpU C ⟨d, .call ⟨.builtin .append, #[.tmp t, y], #[sT, xT]⟩, ty, pos, after, g⟩ T H nx (.out nx n' z) [(nx, outB cs' e n')] (nx + 1) := by
  subst h0; subst hn; subst hc
  have hcs : cs = [] := List.length_eq_zero_iff.1 (by omega)
  subst hcs
  refine OpU.weakT (fun ρ Φ w tmps k => tmps_chT hx (fun _ _ _ _ h => con_out0.1 h) ρ Φ w tmps k) ?_
  have := U_appN (C := C) (T := chT t .nils T) (H := H) (nx := nx) (d := d) (ty := ty) (pos := pos) (after := after) (g := g) (sT := sT) (xT := xT) (e := e) (m := m) (ev_ch hx) (ev_ch_ne hy hne) h2 (by omega) rfl rfl
  rw [Nat.zero_add, List.nil_append]; exact this
end ops
theorem upsO {Hr : AH} {nx b n : Nat} {k : Option ABlk} {cs : List AV} {e : TypeId} (hg : gt Hr b = outB cs e n) (hn : 0 < n) : upsOk 2 Hr nx (nx + 1) [(nx, k), (b, none)] = true := by
  obtain ⟨m, rfl⟩ : ∃ m, n = m + 1 := ⟨n - 1, by omega⟩
  simp [upsOk, hg, outB]
end Go.AE
end

section
namespace Go.AE
open Go.RowKit
theorem injR {τ : Nat → Nat} {k : Nat} (h : injL τ (List.range k) = true) : ∀ b b', b < k → b' < k → τ b = τ b' → b = b' := fun b b' h1 h2 e => injL_of h b (List.mem_range.2 h1) b' (List.mem_range.2 h2) e
theorem ltR {τ : Nat → Nat} {k nx : Nat} (h : (List.range k).all (fun b => (τ b).blt nx) = true) : ∀ b, b < k → τ b < nx := fun b hb => ltOf (List.all_eq_true.1 h b (List.mem_range.2 hb))
section ops
variable {C : Ctx} {T : AT} {H : AH} {nx : Nat} {d : Option Tmp} {ty : TypeId} {pos : String} {after : Array Edge} {g : Option (Nat × Bool)}
theorem U_callT {x : Operand} {args : Array Operand} {ts : Array TypeId} {f : FuncId} {fi ca vs a0 : List AV} {H0 H1 : AH} {k n1 : Nat} {res : AV} [hf : FnOk C.P f] (τ : Nat → Nat) (hx : ev T x = some (.fn f fi ca)) (hv : evL T args.toList = some vs) (hP : MutP C.P f a0 H0 k res H1 n1)
    (ha : fi ++ vs ++ ca = renL τ a0) (hba : belbL k a0 = true) (hH : toH τ k H0 H) (hi : injL τ (List.range k) = true) (hlt : (List.range k).all (fun b => (τ b).blt nx) = true) :
    OpU C ⟨d, .call ⟨.value x, args, ts⟩, ty, pos, after, g⟩ T H nx (res.ren (sigM τ k nx)) (renH (sigM τ k nx) H1 ++ deadH (sigM τ k nx) H0) (nx + (n1 - k)) := fun ρ Φ a w h1 h2 h3 K Q kk => by
  have hc := ev_con h2 hx
  simp only [Con] at hc
  obtain ⟨xs, ys, e1, e2, e3⟩ := hc
  have hargs : ConL ρ Φ w (fi ++ vs ++ ca) (xs ++ args.toList.map a.eval ++ ys) := conL_append (conL_append e1 (evL_con h2 hv)) e2
  have hrun : (execOp a.eval ⟨d, .call ⟨.value x, args, ts⟩, ty, pos, after, g⟩).run C.P w = .ok (.enter f (xs ++ args.toList.map a.eval ++ ys).toArray) w := by
    simp only [execOp, resolve, e3, Deferred.ofValue, Sem.run_bind, Sem.run_pure, Result.andThen_ok, invoke]
    rw [hf.run]
    simp [← Array.toList_map]
  refine ⟨fun _ _ => trivial, ?_⟩
  rw [Oper.semAt_eq _ _ _ (by intro c; simp), hrun]
  refine ⟨fun _ => by simp_all [Ctx.F, Fence.wide], (callsIn_of 0 (callM τ hP ha hba (toH_gt hH) (injR hi) (ltR hlt) ρ Φ w h1 h3 hargs)).mono ?_⟩
  rintro e w' ⟨y, ρ', Φ', rfl, h4, h5⟩
  exact kk ρ' Φ' y w' h4 h5
end ops
theorem retTo {C : Ctx} {T T' : AT} {H H1 : AH} {nx n1 : Nat} {rs : List ResultVar} {vs : List AV} {res : AV} (σ : Nat → Nat) (hT : toT σ n1 T' T) (hH : toH σ n1 H1 H) (hi : injL σ (H1.map (·.1)) = true) (hk : C.k0.ble n1 = true) (hb : ∀ b, b < C.k0 → σ b = b) (h : ResL C.P ⟨T', H1, n1, []⟩ rs vs) (he : packA vs = res) : retMQ C rs res H1 n1 .ret ⟨T, H, nx, []⟩ :=
  ⟨T', vs, Gh_to σ hT hH hi rfl rfl hk hb, h, he⟩
end Go.AE
end

section
namespace Go.AE
open Go.RowKit
section ops
variable {C : Ctx} {T : AT} {H : AH} {nx : Nat} {d : Option Tmp} {ty : TypeId} {pos : String} {after : Array Edge} {g : Option (Nat × Bool)}
theorem U_clear {t e z n b o c : Nat} {x : Operand} {cs cs' zs : List AV} {te : TypeId} [hT : TySl C.P t e z] [hz : TyZero C.P e zs] (hx : ev T x = some (.slice b o n c)) (hg : gt H b = some (.cells cs te)) (hzl : zs.length = z) (hl : o + n * z ≤ cs.length) (h1 : zs.all AV.one = true) (hs : setC cs o (List.replicate n zs).flatten = cs') :
    OpU C ⟨d, .call ⟨.builtin .clear, #[x], #[t]⟩, ty, pos, after, g⟩ T H nx (.tup []) [(b, some (.cells cs' te))] nx :=
  OpU.of_run (by intro c; simp) fun ρ Φ a w _ h3 h4 => by
    subst hs
    obtain ⟨zv, hz1, hz2⟩ := hz.zero
    have hzc := cvSL_con (ρ := ρ) (Φ := Φ) (w := w) hz2
    have hzs : zv.cells.size = z := by rw [← hzl, ← conL_len hzc]; simp
    have hcx := ev_con h3 hx
    simp only [Con] at hcx
    obtain ⟨yy, f1, f2⟩ := hcx
    obtain ⟨yy', ob, f5, f6, pre, xs, rest, f7, f8, f9, rfl⟩ := h4.at_ _ _ hg
    rw [f1] at f5; cases f5
    have hlx := conL_len f7
    have hys : ConL ρ Φ w (List.replicate n zs).flatten (List.replicate n zv.cells.toList).flatten := conL_flat hzc n
    have hyl := conL_len hys
    have hfl : (List.replicate n zs).flatten.length = n * z := by simp [hzl]
    have hone : ∀ v ∈ (List.replicate n zv.cells.toList).flatten, v.oneCell' = true := conL_one hys (by
      intro v hv
      obtain ⟨l, hl2, hv2⟩ := List.mem_flatten.1 hv
      rw [List.eq_of_mem_replicate hl2] at hv2
      exact List.all_eq_true.1 h1 v hv2)
    obtain ⟨w', hw1, hw2⟩ := run_storeCells (P := C.P) (pre := pre) (rest := rest) (t := te) (r := yy.1) o (List.replicate n zv.cells.toList).flatten xs 0 w f6 (by omega) hone
    have hp := Post.set h4 nx (k' := .cells (setC cs o (List.replicate n zs).flatten) te) hg f1 hw2 ⟨pre, setC xs o (List.replicate n zv.cells.toList).flatten, rest, conL_setC o f7 hys, f8, by simp [setC_len, f9], by simp⟩
    refine ⟨ρ, Φ, .tuple #[], w', .inl ?_, ?_, by simp only [Con]; exact ⟨[], conL_nil, rfl⟩⟩
    · simp only [execOp, resolve, Sem.run_bind, Sem.run_pure, Result.andThen_ok, invoke, builtin]
      have hst : (storeCells (⟨yy.1, yy.2.1 + o, none⟩ : Addr) (List.replicate n zv.cells.toList).flatten).run C.P w = .ok () w' := by rw [← f8]; exact hw1
      cases n with
      | zero =>
        have hww : w' = w := by
          simp only [List.replicate_zero, List.flatten_nil] at hst
          simp [storeCells] at hst; exact hst.symm
        subst hww
        simp [Builtin.clear_, run_underlying hT.un, f2]
      | succ n =>
        have hzz : (Builtin.zeroCells zv.cells (n + 1)).toList = (List.replicate (n + 1) zv.cells.toList).flatten := by
          unfold Builtin.zeroCells
          exact zeros_eq zv.cells (n + 1)
        simp only [Builtin.clear_, List.map_toArray, List.map_cons, List.map_nil, List.getElem?_toArray, List.getElem?_cons_zero, Sem.run_bind, run_underlying hT.un, Result.andThen_ok, f2, hz1, hzz, hst, Sem.run_pure]
    · rw [List.cons_append, List.nil_append, gt_upG]; exact hp
theorem U_mkL {t e n : Nat} {z cs' : List AV} {x y : Operand} {k k' : IntKind} {m : Int} [hT : TyMake C.P t e z] (hx : ev T x = some (.int k m)) (hy : ev T y = some (.int k' m)) (hm : m = n) (hlim : n ≤ 1000000) (hc : (List.replicate n z).flatten = cs') :
    OpU C ⟨d, .makeSlice t x y, ty, pos, after, g⟩ T H nx (.slice nx 0 n n) [(nx, some (.cells cs' e))] (nx + 1) := by
  subst hc; exact U_makeSlice hx hy hm hlim
end ops
theorem fr_sl {b n c : Nat} {cs : List AV} (h : n ≤ c) : (AV.slice b 0 n c).fr b cs = .ros cs n (some c) := by
  show (if b.beq b && n.ble c then AV.ros (cs.drop 0) n (some c) else _) = _
  rw [if_pos (by simp [h])]; rfl
theorem srcR {z : Nat} {H : AH} {cs : List AV} {n : Nat} {c : Option Nat} (h : cs.length = n * z) : srcS z H (.ros cs n c) = some (cs, n) := by
  simp only [srcS, h, Nat.le_refl, if_true]; rw [List.take_of_length_le (by omega)]
theorem allM {α : Type} {g : α → AV} (hg : ∀ x, (g x).one = true) (l : List α) : (l.map g).all AV.one = true := by
  rw [List.all_eq_true]; intro v hv; obtain ⟨x, _, rfl⟩ := List.mem_map.1 hv; exact hg x
theorem setC_all {α : Type} {cs vs : List α} (h : vs.length = cs.length) : setC cs 0 vs = vs := by
  have := setC_app vs [] cs (by omega)
  simp only [List.nil_append, List.length_nil] at this
  rw [this, List.drop_of_length_le (by omega), List.append_nil]
theorem repl1 {α : Type} (n : Nat) (v : α) : (List.replicate n [v]).flatten = List.replicate n v := by
  induction n with
  | zero => rfl
  | succ n ih => rw [List.replicate_succ, List.flatten_cons, ih, List.replicate_succ]; rfl
theorem replM {α : Type} {f : α → AV} {x : α} {v : AV} (h : f x = v) (n : Nat) : (List.replicate n [v]).flatten = (List.replicate n x).map f := by rw [repl1, List.map_replicate, h]
theorem copyM {α : Type} {f : α → AV} {l m : List α} (hl : m.length = l.length) : setC (l.map f) 0 (m.map f) = m.map f := setC_all (by simp [hl])
end Go.AE
end

section
namespace Go.AE
open Go.RowKit
theorem belbT_of_toT {σ : Nat → Nat} {n : Nat} : ∀ {T' T : AT}, toT σ n T' T → belbT n T' = true
  | [], _, _ => rfl
  | (i, v) :: l, T, ⟨⟨_, _, _, h⟩, h2⟩ => by simp only [belbT, Bool.and_eq_true]; exact ⟨h, belbT_of_toT h2⟩
mutual
theorem belb_up {n m : Nat} (h : n ≤ m) : ∀ (v : AV), v.belb n = true → v.belb m = true
  | .bool _, d | .int _ _, d | .str _, d | .nilp, d | .nils, d | .nilm, d | .nilf, d | .nili, d | .rop _ _, d | .ros _ _ _, d | .rom _, d => by simpa only [AV.belb] using d
  | .ptr b _, d | .slice b _ _ _, d | .sliceo b _ _ _, d | .out b _ _, d | .mapl b, d | .yld b, d => by
    simp only [AV.belb] at d ⊢; have := ltOf d; rw [Nat.blt_eq]; omega
  | .agg cs, d | .tup cs, d => by simp only [AV.belb] at d ⊢; exact belbL_up h cs d
  | .fn f a b, d => by
    simp only [AV.belb, Bool.and_eq_true] at d ⊢; exact ⟨belbL_up h a d.1, belbL_up h b d.2⟩
theorem belbL_up {n m : Nat} (h : n ≤ m) : ∀ (l : List AV), belbL n l = true → belbL m l = true
  | [], _ => rfl
  | v :: l, d => by
    simp only [belbL, Bool.and_eq_true] at d ⊢; exact ⟨belb_up h v d.1, belbL_up h l d.2⟩
end
theorem belbT_up {n m : Nat} (h : n ≤ m) : ∀ (l : AT), belbT n l = true → belbT m l = true
  | [], _ => rfl
  | (i, v) :: l, d => by
    simp only [belbT, Bool.and_eq_true] at d ⊢; exact ⟨belb_up h v d.1, belbT_up h l d.2⟩
theorem belbE_up {n m : Nat} (h : n ≤ m) : ∀ (l : List (AV × AV × Nat)), belbE n l = true → belbE m l = true
  | [], _ => rfl
  | (k, v, i) :: l, d => by
    simp only [belbE, Bool.and_eq_true] at d ⊢; exact ⟨⟨belb_up h k d.1.1, belb_up h v d.1.2⟩, belbE_up h l d.2⟩
theorem belbB_up {n m : Nat} (h : n ≤ m) : ∀ (q : ABlk), q.belb n = true → q.belb m = true
  | .cells cs _, d => by simp only [ABlk.belb] at d ⊢; exact belbL_up h cs d
  | .map es _, d => by simp only [ABlk.belb] at d ⊢; exact belbE_up h es d
  | .iter v _ _ _, d => by simp only [ABlk.belb] at d ⊢; exact belb_up h v d
  | .loop _ _ T _ _ _ _ d0, d => by
    simp only [ABlk.belb, Bool.and_eq_true] at d ⊢; refine ⟨?_, belbT_up h T d.2⟩; have := ltOf d.1; rw [Nat.blt_eq]; omega
  | .defd _, _ => rfl
def Sees (n : Nat) (H' H : AH) : Prop := ∀ b q, gt H' b = some q → gt H b = some q ∧ b < n ∧ q.belb n = true
theorem Sees.of_to {n : Nat} {H' H : AH} (h : toH id n H' H) : Sees n H' H := fun b q e => by
  have := toH_gt h b q e; rw [ren_id_B] at this; exact this
theorem Gh_seesG {C : Ctx} {T T' : AT} {H H' : AH} {nx n : Nat} {df : List Nat} (hT : ∀ i v, lk T' i = some v → entTo id n i v T) (hH : Sees n H' H) (hk : C.k0.ble n = true) : Gh C ⟨T, H, nx, df⟩ ⟨T', H', n, df⟩ := fun ρ Φ a w h => by
  have up : ∀ b x, b < n → ρ (id b) = some x → (if b < n then ρ b else none) = some x := fun b x e1 e2 => by rw [if_pos e1]; exact e2
  have dn : ∀ b x, (if b < n then ρ b else none) = some x → b < n ∧ ρ b = some x := fun b x e => by
    split at e
    · rename_i e1; exact ⟨e1, e⟩
    · cases e
  have live : ∀ c, gt H' c ≠ none → c < n ∧ gt H c ≠ none := fun c hc => by
    cases e : gt H' c with
    | none => exact absurd e hc
    | some k => obtain ⟨e1, e2, _⟩ := hH c k e; exact ⟨e2, by rw [e1]; simp⟩
  refine ⟨fun b => if b < n then ρ b else none, Φ, fun b hb => ?_, ⟨h.tm.size, fun i v hi => ?_⟩, ⟨fun b k hb => ?_, fun b b' x x' h1 h2 h3 h4 e => ?_, fun b x h1 h2 => ?_, fun b x h1 h2 => ?_, h.mem.frz, h.mem.keep⟩, h.df, h.fz, fun b h1 => ?_, Nat.le_of_ble_eq_true hk, h.dk⟩
  · have hb : (if b < n then ρ b else none) ≠ none := hb
    show b < n
    split at hb
    · assumption
    · exact absurd rfl hb
  · obtain ⟨u, e1, e2, e3⟩ := hT i v hi
    obtain ⟨x, f1, f2⟩ := h.tm.at_ i u e1
    have f3 := e2 _ _ _ _ f1
    exact ⟨x, Con.unren (σ := id) up v e3 f3, f2⟩
  · obtain ⟨b0, b1, b2⟩ := hH b k hb
    obtain ⟨x, o, e1, e2, e3⟩ := h.mem.at_ b _ b0
    exact ⟨x, o, up b x b1 e1, e2, BlkAt.unren (σ := id) up b2 (by rw [ren_id_B]; exact e3)⟩
  · exact h.mem.inj b b' x x' (live b h1).2 (live b' h2).2 (dn b x h3).2 (dn b' x' h4).2 e
  · exact h.mem.free _ x (live b h1).2 (dn b x h2).2
  · exact h.mem.own _ x (live b h1).2 (dn b x h2).2
  · show (if b < n then ρ b else none) = _
    rw [if_pos (Nat.lt_of_lt_of_le h1 (Nat.le_of_ble_eq_true hk))]; exact h.base b h1
theorem Gh_sees {C : Ctx} {T T' : AT} {H H' : AH} {nx n : Nat} {df : List Nat} (hT : toT id n T' T) (hH : Sees n H' H) (hk : C.k0.ble n = true) : Gh C ⟨T, H, nx, df⟩ ⟨T', H', n, df⟩ := Gh_seesG (fun i v e => toT_lk hT i v e) hH hk
theorem gt_appS {b : Nat} {q : ABlk} (L : AH) : ∀ {H : AH}, gt H b = some q → gt (H ++ L) b = some q
  | [], h => by cases h
  | (c, k) :: H, h => by
    rw [List.cons_append, gt_cons]; rw [gt_cons] at h
    split at h
    · rename_i e; rw [if_pos e]; exact h
    · rename_i e; rw [if_neg e]; exact gt_appS L h
structure Rnds (P : Program) (xs : List AV) (n m : Nat) (Hs : Nat → AH) (He : AH) (j : Code) (Tr : AT) (ntr : Nat) (ps : Array Tmp) (assign body : Code) : Prop where
  le : m ≤ xs.length
  bT : belbT n Tr = true
  bH : ∀ i, i ≤ m → ∀ b q, gt (Hs i) b = some q → b < n ∧ q.belb n = true
  bE : ∀ b q, gt He b = some q → b < n ∧ q.belb n = true
  sz : 1 = ps.toList.length
  lt : ps.toList.all (·.blt ntr) = true
  full : ∀ i x, i < m → xs[i]? = some x → ∀ (C : Ctx), C.P = P → ∀ N, (∀ H2 nx2, Sees n (Hs (i + 1)) H2 → N true none H2 nx2) →
      Round C (n + 1) none Tr ntr ps assign body n N (zipT ps.toList [x] Tr) ((n + 1, some (.loop .ready none Tr ntr ps assign body n)) :: Hs i) (n + 2)
  stop : ∀ x, xs[m]? = some x → ∀ (C : Ctx), C.P = P → ∀ N, (∀ H2 nx2, Sees n He H2 → N false (some j) H2 nx2) →
      Round C (n + 1) none Tr ntr ps assign body n N (zipT ps.toList [x] Tr) ((n + 1, some (.loop .ready none Tr ntr ps assign body n)) :: Hs m) (n + 2)
abbrev lpR (n : Nat) (Tr : AT) (ntr : Nat) (ps : Array Tmp) (assign body : Code) (H : AH) : AH := (n + 1, some (.loop .ready none Tr ntr ps assign body n)) :: H
abbrev lpD (n : Nat) (j : Code) (Tr : AT) (ntr : Nat) (ps : Array Tmp) (assign body : Code) (H : AH) : AH := (n + 1, some (.loop .done (some j) Tr ntr ps assign body n)) :: H
def IterP (P : Program) (f : FuncId) (fi ca xs : List AV) : Prop :=
  ∀ (n m : Nat) (Hs : Nat → AH) (He : AH) (j : Code) (Tr : AT) (ntr : Nat) (ps : Array Tmp) (assign body : Code), Rnds P xs n m Hs He j Tr ntr ps assign body →
    MutP P f (fi ++ [.yld (n + 1)] ++ ca) (lpR n Tr ntr ps assign body (Hs 0)) (n + 2) (.tup [])
      (if m < xs.length then lpD n j Tr ntr ps assign body He else lpR n Tr ntr ps assign body (Hs m)) (n + 2)
section
variable {C : Ctx} {T T' : AT} {H : AH} {nx n : Nat} {c : Code} {Q : Exit → St → Prop}
theorem sees_lp {n : Nat} {Hs H2 : AH} {q : ABlk} (hq : q.belb (n + 2) = true) (h : Sees n Hs H2) : Sees (n + 2) ((n + 1, some q) :: Hs) ((n + 1, some q) :: H2) := fun b k e => by
  rw [gt_cons] at e ⊢
  by_cases eb : n + 1 = b
  · rw [if_pos eb] at e ⊢; cases e; exact ⟨rfl, by omega, hq⟩
  · rw [if_neg eb] at e ⊢
    obtain ⟨h1, h2, h3⟩ := h b k e
    exact ⟨h1, by omega, belbB_up (by omega) _ h3⟩
theorem gt_lp {n : Nat} {H : AH} {q : ABlk} : gt ((n + 1, some q) :: H) (n + 1) = some q := by rw [gt_cons, if_pos rfl]
theorem Rnds.bL {P : Program} {xs : List AV} {n m : Nat} {Hs : Nat → AH} {He : AH} {j : Code} {Tr : AT} {ntr : Nat} {ps : Array Tmp} {assign body : Code} (R : Rnds P xs n m Hs He j Tr ntr ps assign body) (st : LoopState) (p : Option Code) : (ABlk.loop st p Tr ntr ps assign body n).belb (n + 2) = true := by
  simp only [ABlk.belb, Bool.and_eq_true]; exact ⟨by rw [Nat.blt_eq]; omega, belbT_up (by omega) _ R.bT⟩
theorem RyieldI {P : Program} {xs : List AV} {m : Nat} {Hs : Nat → AH} {He : AH} {j : Code} {Tr : AT} {ntr : Nat} {ps : Array Tmp} {assign body : Code} (R : Rnds P xs n m Hs He j Tr ntr ps assign body) {ops : Array Oper} {i : Nat} {K : St → Prop} {o : Oper} {x : Operand} {args : Array Operand} {ts : Array TypeId} {v : AV} {t k : Nat} {c : Bool} (T1 T2 : AT)
    (ho : nth ops.toList i = some o) (hg : wantedA ops.toList T o = some c) (hc : c = true) (hop : o.op = .call ⟨.value x, args, ts⟩) (hx : ev T x = some (.yld (n + 1))) (hv : evL T args.toList = some [v]) (hd : o.dst = some t) (ht : t.blt C.nt = true) (hC : C.P = P) (hk0 : C.k0.ble (n + 2) = true)
    (hxs : xs[k]? = some v) (hkm : k ≤ m) (h1 : toT id (n + 2) T1 ((t, .bool true) :: T)) (h2 : toT id (n + 2) T2 ((t, .bool false) :: T))
    (kt : k < m → Reg C ops (i + 1) K ⟨T1, lpR n Tr ntr ps assign body (Hs (k + 1)), n + 2, []⟩) (kf : k = m → m < xs.length → Reg C ops (i + 1) K ⟨T2, lpD n j Tr ntr ps assign body He, n + 2, []⟩) :
    Reg C ops i K ⟨T, lpR n Tr ntr ps assign body (Hs k), n + 2, []⟩ := by
  refine Ryield (l := n + 1) ho hg hc hop hx hv gt_lp (by simpa using R.sz) R.lt hd ht ?_
  by_cases e : k < m
  · exact R.full k v e hxs C hC _ fun H2 nx2 hs => Reg_gh (Gh_sees h1 (sees_lp (R.bL _ _) hs) hk0) (kt e)
  · have e : k = m := by omega
    subst e
    exact R.stop v hxs C hC _ fun H2 nx2 hs => Reg_gh (Gh_sees h2 (sees_lp (R.bL _ _) hs) hk0) (kf rfl (List.getElem?_eq_some_iff.1 hxs).1)
theorem Rnds.sees {P : Program} {xs : List AV} {m : Nat} {Hs : Nat → AH} {He : AH} {j : Code} {Tr : AT} {ntr : Nat} {ps : Array Tmp} {assign body : Code} (R : Rnds P xs n m Hs He j Tr ntr ps assign body) {i : Nat} (hi : i ≤ m) : Sees (n + 2) (lpR n Tr ntr ps assign body (Hs i)) (lpR n Tr ntr ps assign body (Hs i)) :=
  sees_lp (R.bL _ _) fun b q e => ⟨e, R.bH i hi b q e⟩
theorem Rnds.seesD {P : Program} {xs : List AV} {m : Nat} {Hs : Nat → AH} {He : AH} {j : Code} {Tr : AT} {ntr : Nat} {ps : Array Tmp} {assign body : Code} (R : Rnds P xs n m Hs He j Tr ntr ps assign body) : Sees (n + 2) (lpD n j Tr ntr ps assign body He) (lpD n j Tr ntr ps assign body He) :=
  sees_lp (R.bL _ _) fun b q e => ⟨e, R.bE b q e⟩
theorem LoopI {H' : AH} {Q : Exit → St → Prop} {c : Code} (h : c.tag = 6) (I : Nat → St → Prop) {k : Nat} (h0 : I k ⟨T', H', n + 2, []⟩) (hT : toT id (n + 2) T' T) (hs : Sees (n + 2) H' H) (hk : C.k0.ble (n + 2) = true) (round : ∀ n s, I n s → WpA C c.l (thenQ (againP C I n) Q) s) : WpA C c Q ⟨T, H, nx, []⟩ :=
  W_gh (Gh_sees hT hs hk) (Wloop h I h0 round)
theorem againI {H' : AH} {I : Nat → St → Prop} {k : Nat} (q : Nat) (hI : I q ⟨T', H', n + 2, []⟩) (hm : q < k) (hT : toT id (n + 2) T' T) (hs : Sees (n + 2) H' H) (hk : C.k0.ble (n + 2) = true) : againP C I k ⟨T, H, nx, []⟩ :=
  ⟨_, q, Gh_sees hT hs hk, hm, hI⟩
theorem retI {H1 H2 : AH} (hs : Sees (n + 2) H1 H) (e : H1 = H2) (hk : C.k0.ble (n + 2) = true) : retMQ C [] (.tup []) H2 (n + 2) .ret ⟨T, H, nx, []⟩ :=
  ⟨[], [], e ▸ Gh_sees trivial hs hk, rfl, rfl⟩
theorem retIn {H1 H2 : AH} (hs : Sees (n + 2) H1 H) (e : H1 = H2) (hk : C.k0.ble (n + 2) = true) : retMQ C [] (.tup []) H2 (n + 2) .normal ⟨T, H, nx, []⟩ :=
  ⟨[], [], e ▸ Gh_sees trivial hs hk, rfl, rfl⟩
theorem W_rangeX (h : c.tag = 7) (hro : C.round = none) {f : FuncId} {fi ca xs : List AV} [hf : FnOk C.P f] (hI : IterP C.P f fi ca xs) (m : Nat) (Hs : Nat → AH) (He : AH) (j : Code)
    (hT : toT id n T' T) (hH : Sees n (Hs 0) H) (hk : C.k0.ble n = true) (hg : ev T' c.c = some (.fn f fi ca)) (hbf : (belbL n fi && belbL n ca) = true) (hsz : 1 = c.ps.toList.length) (hps : c.ps.toList.all (·.blt C.nt) = true)
    (hm : m ≤ xs.length) (hB : ∀ i, i ≤ m → ∀ b q, gt (Hs i) b = some q → b < n ∧ q.belb n = true) (hBe : ∀ b q, gt He b = some q → b < n ∧ q.belb n = true)
    (hr : ∀ i x, i < m → xs[i]? = some x → ∀ (C' : Ctx), C'.P = C.P → ∀ N, (∀ H2 nx2, Sees n (Hs (i + 1)) H2 → N true none H2 nx2) →
      Round C' (n + 1) none T' C.nt c.ps c.l c.r n N (zipT c.ps.toList [x] T') ((n + 1, some (.loop .ready none T' C.nt c.ps c.l c.r n)) :: Hs i) (n + 2))
    (hs : ∀ x, xs[m]? = some x → ∀ (C' : Ctx), C'.P = C.P → ∀ N, (∀ H2 nx2, Sees n He H2 → N false (some j) H2 nx2) →
      Round C' (n + 1) none T' C.nt c.ps c.l c.r n N (zipT c.ps.toList [x] T') ((n + 1, some (.loop .ready none T' C.nt c.ps c.l c.r n)) :: Hs m) (n + 2))
    (kn : m = xs.length → Q .normal ⟨T', Hs m, n, []⟩) (kj : m < xs.length → WpA C j Q ⟨T', He, n, []⟩) : WpA C c Q ⟨T, H, nx, []⟩ := by
  suffices hs : WpA C c (fun e s => Q e s ∨ (e = .normal ∧ ∃ sj, Gh C s sj ∧ Q .normal sj)) ⟨T, H, nx, []⟩ by
    intro ρ Φ a w hc
    refine wpIn_mono (hs ρ Φ a w hc) ?_
    rintro e a' w' ⟨s', ρ', Φ', hq, hc'⟩
    rcases hq with hq | ⟨rfl, sj, hg, hq⟩
    · exact ⟨s', ρ', Φ', hq, hc'⟩
    · obtain ⟨ρ2, Φ2, h2⟩ := hg ρ' Φ' a' w' hc'; exact ⟨sj, ρ2, Φ2, hq, h2⟩
  refine W_gh (Gh_sees hT hH hk) ?_
  have hbT := belbT_of_toT hT
  have hbl : ∀ (st : LoopState) (p : Option Code), (ABlk.loop st p T' C.nt c.ps c.l c.r n).belb (n + 2) = true := fun st p => by
    simp only [ABlk.belb, Bool.and_eq_true]; exact ⟨by rw [Nat.blt_eq]; omega, belbT_up (by omega) _ hbT⟩
  have hP := hI n m Hs He j T' C.nt c.ps c.l c.r ⟨hm, hbT, hB, hBe, hsz, hps, hr, hs⟩
  have hbf' : belbL n fi = true ∧ belbL n ca = true := by simpa only [Bool.and_eq_true] using hbf
  have happ : ∀ (k : Nat) (a b : List AV), belbL k a = true → belbL k b = true → belbL k (a ++ b) = true := fun k a => by
    induction a with
    | nil => intro b _ h; exact h
    | cons v a ih => intro b h1 h2; simp only [belbL, List.cons_append, Bool.and_eq_true] at h1 ⊢; exact ⟨h1.1, ih b h1.2 h2⟩
  have hba : belbL (n + 2) (fi ++ [.yld (n + 1)] ++ ca) = true := happ _ _ _ (happ _ _ _ (belbL_up (by omega) _ hbf'.1) (by simp only [belbL, AV.belb, Bool.and_true]; rw [Nat.blt_eq]; omega)) (belbL_up (by omega) _ hbf'.2)
  have hX : ∀ b q, gt ((n + 1, some (ABlk.loop .ready none T' C.nt c.ps c.l c.r n)) :: Hs 0) b = some q → gt ((n + 1, some (.loop .ready none T' C.nt c.ps c.l c.r n)) :: Hs 0) (id b) = some (q.ren id) ∧ b < n + 2 ∧ q.belb (n + 2) = true := fun b q e => by
    rw [ren_id_B]
    refine ⟨e, ?_⟩
    rw [gt_cons] at e
    split at e
    · rename_i e1; cases e; exact ⟨by omega, hbl _ _⟩
    · obtain ⟨h1, h2⟩ := hB 0 (Nat.zero_le _) b q e; exact ⟨by omega, belbB_up (by omega) _ h2⟩
  have hsig : sigM id (n + 2) (n + 1 + 1) = id := by
    funext b
    by_cases hb : b < n + 2
    · rw [sigM_lt hb]
    · rw [sigM_ge (by omega)]; show _ = b; omega
  have hren : ∀ (L : AH), renH id L = L := fun L => by
    induction L with
    | nil => rfl
    | cons a L ih => obtain ⟨b, k⟩ := a; simp only [renH, ih, id]; cases k with | none => rfl | some k => simp only [Option.map_some, ren_id_B]
  by_cases hlt : m < xs.length
  · rw [if_pos hlt] at hP
    refine W_range h hro (fi := fi) (ca := ca) (f := f) hg id hP ?_ hba hX (fun _ _ _ _ e => e) (fun b hb => hb) (st := .done) (p := some j) (Tl := T') (ntl := C.nt) (dl := n) (psl := c.ps) (al := c.l) (bl := c.r) ?_ (by simp) ?_
    · rw [ren_id_L]
    · rw [hsig, hren, List.append_assoc]; exact gt_lp
    · rw [hsig, hren]
      refine W_gh (Gh_seesG (n := n) (T' := T') (H' := He) (fun i v e => ⟨v, e, by rw [ren_id_v]; exact le_refl _, belbT_lk hbT i v e⟩) ?_ hk) ((kj hlt).mono fun _ _ h => .inl h)
      · intro b q e
        obtain ⟨h1, h2⟩ := hBe b q e
        refine ⟨?_, h1, h2⟩
        rw [gt_cons, if_neg (by omega), List.append_assoc, List.cons_append, gt_cons, if_neg (by omega)]
        exact gt_appS _ e
  · rw [if_neg hlt] at hP
    refine W_range h hro (fi := fi) (ca := ca) (f := f) hg id hP ?_ hba hX (fun _ _ _ _ e => e) (fun b hb => hb) (st := .ready) (p := none) (Tl := T') (ntl := C.nt) (dl := n) (psl := c.ps) (al := c.l) (bl := c.r) ?_ (by simp) ?_
    · rw [ren_id_L]
    · rw [hsig, hren, List.append_assoc]; exact gt_lp
    · rw [hsig, hren]
      refine .inr ⟨J, _, ?_, kn (by omega)⟩
      refine Gh_seesG (n := n) (T' := T') (H' := Hs m) (fun i v e => ⟨v, e, by rw [ren_id_v]; exact le_refl _, belbT_lk hbT i v e⟩) ?_ hk
      intro b q e
      obtain ⟨h1, h2⟩ := hB m (Nat.le_refl _) b q e
      refine ⟨?_, h1, h2⟩
      rw [gt_cons, if_neg (by omega), List.append_assoc, List.cons_append, gt_cons, if_neg (by omega)]
      exact gt_appS _ e
theorem W_rangeI (h : c.tag = 7) (hro : C.round = none) {f : FuncId} {fi ca xs : List AV} [hf : FnOk C.P f] (hI : IterP C.P f fi ca xs) (Hs : Nat → AH)
    (hT : toT id n T' T) (hH : toH id n (Hs 0) H) (hk : C.k0.ble n = true) (hg : ev T' c.c = some (.fn f fi ca)) (hbf : (belbL n fi && belbL n ca) = true) (hsz : 1 = c.ps.toList.length) (hps : c.ps.toList.all (·.blt C.nt) = true)
    (hB : ∀ i, toH id n (Hs i) (Hs i))
    (hr : ∀ i x, xs[i]? = some x → ∀ (C' : Ctx), C'.P = C.P → ∀ N, (∀ H2 nx2, toH id n (Hs (i + 1)) H2 → N true none H2 nx2) →
      Round C' (n + 1) none T' C.nt c.ps c.l c.r n N (zipT c.ps.toList [x] T') ((n + 1, some (.loop .ready none T' C.nt c.ps c.l c.r n)) :: Hs i) (n + 2))
    (kn : Q .normal ⟨T', Hs xs.length, n, []⟩) : WpA C c Q ⟨T, H, nx, []⟩ :=
  W_rangeX h hro hI xs.length Hs [] .ret hT (.of_to hH) hk hg hbf hsz hps (Nat.le_refl _) (fun i _ b q e => (toH_gt (hB i) b q e).2) (fun b q e => by cases e)
    (fun i x _ hx C' hC N hN => hr i x hx C' hC N fun H2 nx2 h2 => hN H2 nx2 (.of_to h2)) (fun x hx => by simp at hx) (fun _ => kn) (fun h => absurd h (Nat.lt_irrefl _))
end
end Go.AE
end

section
namespace Go.AE
open Go.RowKit
section
variable {K V : Type}
def mE (ek : K → AV) (ev : V → AV) (L : List (K × V × Nat)) : List (AV × AV × Nat) := L.map fun e => (ek e.1, ev e.2.1, e.2.2)
theorem mE_data {ek : K → AV} {ev : V → AV} (h1 : ∀ k, (ek k).data) (h2 : ∀ v, (ev v).data) : ∀ (L : List (K × V × Nat)), dataE (mE ek ev L)
  | [] => rfl
  | e :: L => dataE_cons.2 ⟨h1 _, h2 _, mE_data h1 h2 L⟩
theorem mE_append {ek : K → AV} {ev : V → AV} (a b : List (K × V × Nat)) : mE ek ev (a ++ b) = mE ek ev a ++ mE ek ev b := by simp [mE]
theorem mE_get {ek : K → AV} {ev : V → AV} {L : List (K × V × Nat)} {i : Nat} {e : K × V × Nat} (h : L[i]? = some e) : (mE ek ev L)[i]? = some (ek e.1, ev e.2.1, e.2.2) := by simp [mE, h]
theorem mE_set {ek : K → AV} {ev : V → AV} (L : List (K × V × Nat)) (i : Nat) (e : K × V × Nat) : mE ek ev (L.set i e) = (mE ek ev L).set i (ek e.1, ev e.2.1, e.2.2) := by simp [mE, List.map_set]
theorem mE_erase {ek : K → AV} {ev : V → AV} : ∀ (L : List (K × V × Nat)) (i : Nat), mE ek ev (L.eraseIdx i) = (mE ek ev L).eraseIdx i
  | [], i => by simp [mE]
  | e :: L, 0 => by simp [mE]
  | e :: L, i + 1 => by
    have := mE_erase (ek := ek) (ev := ev) L i
    simp only [mE] at this ⊢
    simp [this]
variable [DecidableEq K]
def mget : List (K × V × Nat) → K → Option V
  | [], _ => none
  | e :: l, k => if e.1 = k then some e.2.1 else mget l k
def mput (ck : Nat) : List (K × V × Nat) → K → V → List (K × V × Nat)
  | [], k, v => [(k, v, ck)]
  | e :: l, k, v => if e.1 = k then (k, v, e.2.2) :: l else e :: mput ck l k v
def mck (ck : Nat) (l : List (K × V × Nat)) (k : K) : Nat := if (mget l k).isSome then ck else ck + 1
def mdel : List (K × V × Nat) → K → List (K × V × Nat)
  | [], _ => []
  | e :: l, k => if e.1 = k then l else e :: mdel l k
theorem find_none {ek : K → AV} {ev : V → AV} (hi : ∀ a b, ek a = ek b → a = b) {k : K} : ∀ {L : List (K × V × Nat)}, mget L k = none → FindK (ek k) (mE ek ev L) none ∧ (∀ ck v, mput ck L k v = L ++ [(k, v, ck)]) ∧ mdel L k = L
  | [], _ => ⟨.nil, fun _ _ => rfl, rfl⟩
  | e :: L, h => by
    unfold mget at h
    split at h
    · cases h
    · rename_i hne
      obtain ⟨h1, h2, h3⟩ := find_none (ek := ek) (ev := ev) hi h
      refine ⟨.miss0 (fun e => hne (hi _ _ e)) h1, fun ck v => ?_, ?_⟩
      · rw [mput, if_neg hne, h2]; rfl
      · rw [mdel, if_neg hne, h3]
theorem find_some {ek : K → AV} {ev : V → AV} (hi : ∀ a b, ek a = ek b → a = b) {k : K} {u : V} : ∀ {L : List (K × V × Nat)}, mget L k = some u →
    ∃ i n, L[i]? = some (k, u, n) ∧ FindK (ek k) (mE ek ev L) (some (i, ev u)) ∧ (∀ ck v, mput ck L k v = L.set i (k, v, n)) ∧ mdel L k = L.eraseIdx i
  | [], h => by cases h
  | e :: L, h => by
    unfold mget at h
    split at h
    · rename_i he
      cases h
      obtain ⟨a, b, n⟩ := e
      simp only at he; subst he
      exact ⟨0, n, rfl, .hit _ _ _, fun ck v => by simp [mput], by simp [mdel]⟩
    · rename_i hne
      obtain ⟨i, n, h1, h2, h3, h4⟩ := find_some (ek := ek) (ev := ev) hi h
      refine ⟨i + 1, n, by simpa using h1, .miss (fun e => hne (hi _ _ e)) h2, fun ck v => ?_, ?_⟩
      · rw [mput, if_neg hne, h3]; rfl
      · rw [mdel, if_neg hne, h4]; rfl
theorem mE_keys {ek : K → AV} {ev : V → AV} {ok : AV → Bool} (h : ∀ k, ok (ek k) = true) : ∀ (L : List (K × V × Nat)), keysOk ok (mE ek ev L) = true
  | [] => rfl
  | e :: L => by simp only [mE, List.map_cons, keysOk, h, Bool.true_and]; exact mE_keys h L
structure MOk (ck : Nat) (L : List (K × V × Nat)) : Prop where
  lt : ∀ e ∈ L, e.2.2 < ck
  st : (L.map (·.2.2)).Nodup
  ky : (L.map (·.1)).Nodup
theorem MOk.nil {ck : Nat} : MOk ck ([] : List (K × V × Nat)) := ⟨fun _ h => by simp at h, by simp, by simp⟩
theorem mget_none : ∀ {L : List (K × V × Nat)} {k : K}, mget L k = none ↔ k ∉ L.map (·.1)
  | [], k => by simp [mget]
  | e :: L, k => by
    unfold mget
    split
    · rename_i h; simp [h]
    · rename_i h
      rw [mget_none (L := L)]
      simp only [List.map_cons, List.mem_cons, not_or]
      exact ⟨fun h2 => ⟨fun e => h e.symm, h2⟩, fun h2 => h2.2⟩
theorem mget_mem {L : List (K × V × Nat)} (h : (L.map (·.1)).Nodup) {k : K} {v : V} : mget L k = some v ↔ ∃ n, (k, v, n) ∈ L := by
  induction L with
  | nil => simp [mget]
  | cons e L ih =>
    obtain ⟨a, b, n⟩ := e
    simp only [List.map_cons, List.nodup_cons] at h
    unfold mget
    split
    · rename_i hk
      simp only at hk; subst hk
      constructor
      · rintro ⟨rfl⟩; exact ⟨n, by simp⟩
      · rintro ⟨m, hm⟩
        rcases List.mem_cons.1 hm with e | hm
        · cases e; rfl
        · exact absurd (List.mem_map.2 ⟨_, hm, rfl⟩) h.1
    · rename_i hk
      rw [ih h.2]
      constructor
      · rintro ⟨m, hm⟩; exact ⟨m, List.mem_cons_of_mem _ hm⟩
      · rintro ⟨m, hm⟩
        rcases List.mem_cons.1 hm with e | hm
        · cases e; exact absurd rfl hk
        · exact ⟨m, hm⟩
theorem mput_none {k : K} : ∀ {L : List (K × V × Nat)}, mget L k = none → ∀ ck v, mput ck L k v = L ++ [(k, v, ck)]
  | [], _ => fun _ _ => rfl
  | e :: L, h => by
    unfold mget at h
    split at h
    · cases h
    · rename_i hne
      intro ck v; rw [mput, if_neg hne, mput_none h]; rfl
theorem mput_some {k : K} {u : V} : ∀ {L : List (K × V × Nat)}, mget L k = some u → ∃ i n, L[i]? = some (k, u, n) ∧ ∀ ck v, mput ck L k v = L.set i (k, v, n)
  | [], h => by cases h
  | e :: L, h => by
    unfold mget at h
    split at h
    · rename_i he
      cases h
      obtain ⟨a, b, n⟩ := e
      simp only at he; subst he
      exact ⟨0, n, rfl, fun ck v => by simp [mput]⟩
    · rename_i hne
      obtain ⟨i, n, h1, h3⟩ := mput_some h
      exact ⟨i + 1, n, by simpa using h1, fun ck v => by rw [mput, if_neg hne, h3]; rfl⟩
theorem set_same {α : Type} {l : List α} {i : Nat} {a : α} (h : l[i]? = some a) : l.set i a = l := by
  apply List.ext_getElem?
  intro j
  rw [List.getElem?_set]
  split
  · rename_i e; subst e
    split
    · exact h.symm
    · rename_i hh; rw [List.getElem?_eq_none (by omega)]
  · rfl
theorem MOk.put {ck : Nat} {L : List (K × V × Nat)} (h : MOk ck L) (k : K) (v : V) : MOk (mck ck L k) (mput ck L k v) := by
  cases e : mget L k with
  | none =>
    rw [mck, e, mput_none e]
    refine ⟨fun x hx => ?_, ?_, ?_⟩
    · rcases List.mem_append.1 hx with hx | hx
      · have := h.lt x hx; simp; omega
      · simp at hx; subst hx; simp
    · rw [List.map_append, List.nodup_append]
      refine ⟨h.st, by simp, fun a ha b hb => ?_⟩
      obtain ⟨x, hx, rfl⟩ := List.mem_map.1 ha
      simp at hb; subst hb
      have := h.lt x hx; omega
    · rw [List.map_append, List.nodup_append]
      refine ⟨h.ky, by simp, fun a ha b hb => ?_⟩
      simp at hb; subst hb
      rintro rfl
      exact mget_none.1 e ha
  | some u =>
    obtain ⟨i, n, h1, h2⟩ := mput_some e
    rw [mck, e, h2]
    refine ⟨fun x hx => ?_, ?_, ?_⟩
    · rcases List.mem_or_eq_of_mem_set hx with hx | rfl
      · exact h.lt x hx
      · exact h.lt (k, u, n) (List.mem_of_getElem? h1)
    · rw [List.map_set, set_same (by simp [h1])]; exact h.st
    · rw [List.map_set, set_same (by simp [h1])]; exact h.ky
theorem MOk.filter {ck : Nat} {L : List (K × V × Nat)} (h : MOk ck L) (p : K × V × Nat → Bool) : MOk ck (L.filter p) :=
  ⟨fun e he => h.lt e (List.mem_filter.1 he).1, h.st.sublist ((List.filter_sublist).map _), h.ky.sublist ((List.filter_sublist).map _)⟩
theorem mdel_filter {L : List (K × V × Nat)} (h : (L.map (·.1)).Nodup) (k : K) : mdel L k = L.filter fun e => !decide (e.1 = k) := by
  induction L with
  | nil => rfl
  | cons e L ih =>
    simp only [List.map_cons, List.nodup_cons] at h
    rw [mdel, List.filter_cons]
    split
    · rename_i hk
      subst hk
      simp only [decide_true, Bool.not_true, Bool.false_eq_true, if_false]
      exact (List.filter_eq_self.2 fun x hx => by simpa using fun hh : x.1 = e.1 => h.1 (hh ▸ List.mem_map.2 ⟨x, hx, rfl⟩)).symm
    · rename_i hk
      simp only [hk, decide_false, Bool.not_false, if_true]
      rw [ih h.2]
end
section ops
variable {C : Ctx} {T : AT} {H : AH} {nx : Nat} {d : Option Tmp} {ty : TypeId} {pos : String} {after : Array Edge} {g : Option (Nat × Bool)}
variable {K V : Type} [DecidableEq K] {ek : K → AV} {el : V → AV}
structure MEnc (P : Program) (t : TypeId) (ek : K → AV) (el : V → AV) (z : V) : Prop where
  inj : ∀ a b, ek a = ek b → a = b
  dk : ∀ k, (ek k).data
  dv : ∀ v, (el v).data
  key : ∃ kt et ok, TyMap P t kt et ∧ TyKey P kt ok ∧ (∀ k, ok (ek k) = true) ∧ ∃ zv, (∀ w, (zeroValue et).run P w = .ok zv w) ∧ ∀ ρ Φ w, Con ρ Φ w (el z) zv
theorem U_lookupM {t : TypeId} {x i : Operand} {b ck : Nat} {k : K} {z : V} {L : List (K × V × Nat)} {v : AV} (hE : MEnc C.P t ek el z) (hx : ev T x = some (.mapl b)) (hi : ev T i = some (ek k)) (hg : gt H b = some (.map (mE ek el L) ck)) (hv : el ((mget L k).getD z) = v) :
    OpU C ⟨d, .lookup t x i false, ty, pos, after, g⟩ T H nx v [] nx := by
  obtain ⟨kt, et, ok, hM, hK, hok, zv, hz, hzc⟩ := hE.key
  cases e : mget L k with
  | some u =>
    obtain ⟨j, n, _, h2, _, _⟩ := find_some (ek := ek) (ev := el) hE.inj e
    rw [e] at hv; simp only [Option.getD_some] at hv; subst hv
    exact U_lookup hx hi hg (hok k) (mE_keys hok L) h2
  | none =>
    rw [e] at hv; simp only [Option.getD_none] at hv; subst hv
    have h1 := (find_none (ek := ek) (ev := el) hE.inj e).1
    exact OpU.of_value (by intro c; simp) fun ρ Φ a w h2 h3 => by
      obtain ⟨y, l, e1, e2, e3, e4⟩ := map_at h3 hg (ev_con h2 hx)
      obtain ⟨r', f1, f2⟩ := hK.find ρ Φ w _ _ _ l _ (hok k) (mE_keys hok L) (ev_con h2 hi) e4 h1
      cases r' with
      | some p => exact f2.elim
      | none =>
        refine ⟨zv, ?_, hzc ρ Φ w⟩
        simp only [execOp, Instr.lookup, Sem.run_bind, run_underlying hM.un, Result.andThen_ok, e2, run_getMap e3, Sem.run_pure, hK.check _ _ _ _ _ _ (hok k) (ev_con h2 hi), f1, Bool.false_eq_true, if_false, hz w]
theorem U_updM {t : TypeId} {x i y : Operand} {b ck : Nat} {k : K} {v z : V} {L : List (K × V × Nat)} (hE : MEnc C.P t ek el z) (hx : ev T x = some (.mapl b)) (hi : ev T i = some (ek k)) (hy : ev T y = some (el v)) (hg : gt H b = some (.map (mE ek el L) ck)) :
    OpU C ⟨d, .mapUpdate t x i y, ty, pos, after, g⟩ T H nx (.tup []) [(b, some (.map (mE ek el (mput ck L k v)) (mck ck L k)))] nx := by
  obtain ⟨kt, et, ok, hM, hK, hok, zv, hz, hzc⟩ := hE.key
  cases e : mget L k with
  | some u =>
    obtain ⟨j, n, h1, h2, h3, _⟩ := find_some (ek := ek) (ev := el) hE.inj e
    have := U_mapUpdateOld (C := C) (t := t) (kt := kt) (et := et) (ok := ok) (d := d) (ty := ty) (pos := pos) (after := after) (g := g) (nx := nx) hx hi hy hg (hok k) (mE_keys hok L) h2 (mE_get h1)
    rw [mck, e, h3, mE_set]; exact this
  | none =>
    obtain ⟨h1, h2, _⟩ := find_none (ek := ek) (ev := el) hE.inj e
    have := U_mapUpdate (C := C) (t := t) (kt := kt) (et := et) (ok := ok) (d := d) (ty := ty) (pos := pos) (after := after) (g := g) (nx := nx) hx hi hy hg (hok k) (mE_keys hok L) h1
    rw [mck, e, h2, mE_append]; exact this
theorem U_delM {t tk : TypeId} {x i : Operand} {b ck : Nat} {k : K} {z : V} {L : List (K × V × Nat)} (hE : MEnc C.P t ek el z) (hx : ev T x = some (.mapl b)) (hi : ev T i = some (ek k)) (hg : gt H b = some (.map (mE ek el L) ck)) (hs : (mget L k).isSome = true) :
    OpU C ⟨d, .call ⟨.builtin .delete, #[x, i], #[t, tk]⟩, ty, pos, after, g⟩ T H nx (.tup []) [(b, some (.map (mE ek el (mdel L k)) ck))] nx := by
  obtain ⟨kt, et, ok, hM, hK, hok, zv, hz, hzc⟩ := hE.key
  cases e : mget L k with
  | some u =>
    obtain ⟨j, n, h1, h2, _, h4⟩ := find_some (ek := ek) (ev := el) hE.inj e
    have := U_delete (C := C) (t := t) (kt := kt) (et := et) (ok := ok) (d := d) (ty := ty) (pos := pos) (after := after) (g := g) (nx := nx) (tk := tk) hx hi hg (hok k) (mE_keys hok L) h2
    rw [h4, mE_erase]; exact this
  | none => rw [e] at hs; cases hs
theorem U_lenM {t rt : TypeId} {x : Operand} {b ck : Nat} {L : List (K × V × Nat)} {kt et : TypeId} (hM : C.P.underlying t = some (.map kt et)) (hx : ev T x = some (.mapl b)) (hg : gt H b = some (.map (mE ek el L) ck)) :
    OpU C ⟨d, .call ⟨.builtin .len, #[x], #[t]⟩, rt, pos, after, g⟩ T H nx (.int .i64 (L.length : Nat)) [] nx :=
  OpU.of_value (by intro c; simp) fun ρ Φ a w h2 h3 => by
    obtain ⟨y, l, e1, e2, e3, e4⟩ := map_at h3 hg (ev_con h2 hx)
    have hl := conE_len e4
    refine ⟨goInt l.length, ?_, ?_⟩
    · simp only [execOp, resolve, Sem.run_bind, Sem.run_pure, Result.andThen_ok, invoke, builtin]
      simp [Builtin.len_, run_underlying hM, e2, run_getMap e3]
    · rw [hl]; simp only [mE, List.length_map]; exact mk_int
theorem U_rangeM {t : TypeId} {x : Operand} {b ck : Nat} {es : List (AV × AV × Nat)} {kt et : TypeId} (hM : C.P.underlying t = some (.map kt et)) (hx : ev T x = some (.mapl b)) (hg : gt H b = some (.map es ck)) :
    OpU C ⟨d, .range t x, ty, pos, after, g⟩ T H nx (.ptr nx 0) [(nx, some (.iter (.mapl b) ck [] ck))] (nx + 1) :=
  OpU.of_run (by intro c; simp) fun ρ Φ a w hf h2 h3 => by
    have hc := ev_con h2 hx
    obtain ⟨y, l, e1, e2, e3, e4⟩ := map_at h3 hg hc
    have hp := Post.new h3 (nx := nx) (hf nx (Nat.le_refl _) (Nat.lt_succ_self _)) (k := .iter (.mapl b) ck [] ck) (o := .mapIter (some y.1) ck #[] ck) 0 0 ⟨y.1, by rw [← e2]; exact hc, rfl, rfl⟩
    refine ⟨ρ.upd nx (w.heap.size, 0, 0), Φ, .pointer (some ⟨w.heap.size, 0, none⟩), w.alloc (.mapIter (some y.1) ck #[] ck), .inl ?_, ?_, by simpa using mk_ptr (Env.upd_same ρ nx (w.heap.size, 0, 0)) 0⟩
    · simp only [execOp, Instr.range, Sem.run_bind, run_underlying hM, Result.andThen_ok, e2, run_getMap e3, Sem.run_pure]
      simp
    · rw [List.cons_append, List.nil_append, gt_upG]; exact hp.more (by simp)
end ops
section next
variable {C : Ctx} {T : AT} {H : AH} {nx : Nat} {df : List Nat}
variable {K V : Type} [DecidableEq K] {ek : K → AV} {el : V → AV}
theorem run_next {P : Program} {w : World} {r m ck : Nat} {l : List MapEntry} {S : List Nat} {ty : TypeId} (h1 : w.heap[r]? = some (.mapIter (some m) ck S.toArray ck)) (h2 : w.heap[m]? = some (.map l.toArray ck)) (hl : ∀ e ∈ l, e.born < ck) :
    ((∀ e ∈ l, e.born ∈ S) ∧ (Instr.next (.pointer (some ⟨r, 0, none⟩)) false ty).run P w = .ok (.tuple #[.bool false]) w) ∨
    ∃ e ∈ l, ∃ dr, e.born ∉ S ∧ (Instr.next (.pointer (some ⟨r, 0, none⟩)) false ty).run P w = .ok (.tuple #[.bool true, e.key, e.val]) ({ w with drawn := dr }.putObj r (.mapIter (some m) ck (S ++ [e.born]).toArray ck)) := by
  have g1 : ∀ w' : World, w'.heap = w.heap → (getObj r).run P w' = .ok (.mapIter (some m) ck S.toArray ck) w' := fun w' e => by simp [getObj, Sem.run, e, h1]
  have g2 : (getObj m).run P w = .ok (.map l.toArray ck) w := run_getMap h2
  have s1 : ∀ (w' : World) o, w'.heap = w.heap → (setObj r o).run P w' = .ok () (w'.putObj r o) := fun w' o e => by simp [setObj, Sem.run, e, h1, World.putObj]
  have hall : (!S.toArray.isEmpty && !l.toArray.isEmpty && l.toArray.all fun e => decide (e.born ≥ ck)) = false := by
    cases l with
    | nil => simp
    | cons e l => have := hl e (by simp); simp; intro _ h; omega
  have hold : ((l.toArray.filter fun e => !S.toArray.contains e.born).filter fun e => decide (e.born < ck)) = (l.filter fun e => !S.contains e.born).toArray := by
    apply Array.ext'
    rw [Array.toList_filter, Array.toList_filter]
    rw [List.filter_eq_self.2]
    · simp
    · intro e he; have := hl e (List.mem_filter.1 he).1; simpa using this
  have hnew : ((l.toArray.filter fun e => !S.toArray.contains e.born).filter fun e => decide (e.born ≥ ck)) = #[] := by
    apply Array.ext'
    rw [Array.toList_filter, Array.toList_filter]
    rw [List.filter_eq_nil_iff.2]
    intro e he; have := hl e (List.mem_filter.1 he).1; simp; omega
  have hrun : (Instr.next (.pointer (some ⟨r, 0, none⟩)) false ty).run P w = (do
      match ((if (l.filter fun e => !S.contains e.born).isEmpty then #[none] else #[]) ++ ((l.filter fun e => !S.contains e.born).toArray).map some : Array (Option MapEntry))[← choose (.mapNext ((if (l.filter fun e => !S.contains e.born).isEmpty then #[none] else #[]) ++ ((l.filter fun e => !S.contains e.born).toArray).map some : Array (Option MapEntry)).size)]? with
      | some (some e) => setObj r (.mapIter (some m) ck (S.toArray.push e.born) ck); pure (.tuple #[.bool true, e.key, e.val])
      | some none => pure (.tuple #[.bool false])
      | none => stuck "Next: no such candidate" : Sem Value).run P w := by
    unfold Instr.next
    have hall' : ((!S.isEmpty && !l.isEmpty && l.toArray.all fun e => decide (e.born ≥ ck)) = true) ↔ False := by simpa using hall
    simp only [Sem.run_bind, g1 w rfl, Result.andThen_ok, g2, hold, hnew, Sem.run_pure, Array.append_empty, List.isEmpty_toArray]
    rw [if_neg (by rw [hall']; exact id), Sem.run_bind]
    rfl
  rw [hrun]
  by_cases he : (l.filter fun e => !S.contains e.born) = []
  · refine .inl ⟨fun e h => ?_, ?_⟩
    · have := List.filter_eq_nil_iff.1 he e h; simpa using this
    · rw [he]
      simp [choose, Sem.run, Question.forced, Sem.bind]
  · refine .inr ?_
    obtain ⟨F, hF⟩ : ∃ F, (l.filter fun e => !S.contains e.born) = F := ⟨_, rfl⟩
    rw [hF] at he
    have hm : ∀ e ∈ F, e ∈ l ∧ e.born ∉ S := fun e h => by
      rw [← hF] at h
      obtain ⟨h3, h4⟩ := List.mem_filter.1 h
      exact ⟨h3, by simpa using h4⟩
    have hne : F.isEmpty = false := by simpa using he
    rw [hF]
    simp only [hne, Bool.false_eq_true, if_false, Array.empty_append, Array.size_map, List.size_toArray]
    have hpos : 0 < F.length := List.length_pos_iff.2 he
    have key : ∃ q dr, q < F.length ∧ (choose (.mapNext F.length)).run P w = .ok q { w with drawn := dr } := by
      by_cases h3 : F.length ≤ 1
      · exact ⟨0, w.drawn, hpos, by simp [choose, Sem.run, Question.forced, h3]⟩
      · exact ⟨_, w.drawn + 1, Nat.mod_lt (w.tape w.drawn (.mapNext F.length)) hpos, by simp [choose, Sem.run, Question.forced, h3, Question.cut]⟩
    obtain ⟨q, dr, hq, hc⟩ := key
    refine ⟨F[q], (hm _ (List.getElem_mem hq)).1, dr, (hm _ (List.getElem_mem hq)).2, ?_⟩
    rw [Sem.run_bind, hc, Result.andThen_ok]
    simp only [List.map_toArray, List.getElem?_toArray, List.getElem?_map, List.getElem?_eq_getElem hq, Option.map_some]
    rw [Sem.run_bind, s1 { w with drawn := dr } _ rfl, Result.andThen_ok, Sem.run_pure]
    simp
theorem conE_mem {ρ : Env} {Φ : Fz} {w : World} : ∀ {M : List (K × V × Nat)} {l : List MapEntry}, ConE ρ Φ w (mE ek el M) l → ∀ e ∈ l, ∃ x ∈ M, e.born = x.2.2 ∧ Con ρ Φ w (ek x.1) e.key ∧ Con ρ Φ w (el x.2.1) e.val
  | [], l, h, e, he => by simp only [mE, List.map_nil, ConE] at h; subst h; simp at he
  | x :: M, l, h, e, he => by
    simp only [mE, List.map_cons, ConE] at h
    obtain ⟨a, b, l', rfl, h1, h2, h3⟩ := h
    rcases List.mem_cons.1 he with rfl | he
    · exact ⟨x, by simp, rfl, h1, h2⟩
    · obtain ⟨y, hy, h4⟩ := conE_mem h3 e he
      exact ⟨y, List.mem_cons_of_mem _ hy, h4⟩
theorem conE_born {ρ : Env} {Φ : Fz} {w : World} : ∀ {M : List (K × V × Nat)} {l : List MapEntry}, ConE ρ Φ w (mE ek el M) l → l.map (·.born) = M.map (·.2.2)
  | [], l, h => by simp only [mE, List.map_nil, ConE] at h; subst h; rfl
  | x :: M, l, h => by
    simp only [mE, List.map_cons, ConE] at h
    obtain ⟨a, b, l', rfl, h1, h2, h3⟩ := h
    simp only [List.map_cons]; rw [conE_born h3]
theorem Rnext {ops : Array Oper} {i : Nat} {Q : St → Prop} {o : Oper} {x : Operand} {it b d ck : Nat} {S : List Nat} {M : List (K × V × Nat)} {c : Bool}
    (ho : nth ops.toList i = some o) (hg : wantedA ops.toList T o = some c) (hc : c = true) (hop : o.op = .next x false) (hd : o.dst = some d) (ht : d.blt C.nt = true) (hx : ev T x = some (.ptr it 0)) (hit : gt H it = some (.iter (.mapl b) ck S ck)) (hb : gt H b = some (.map (mE ek el M) ck)) (hM : ∀ e ∈ M, e.2.2 < ck)
    (kend : (∀ e ∈ M, e.2.2 ∈ S) → Reg C ops (i + 1) Q ⟨(d, .tup [.bool false]) :: T, H, nx, df⟩)
    (kstep : ∀ e ∈ M, e.2.2 ∉ S → Reg C ops (i + 1) Q ⟨(d, .tup [.bool true, ek e.1, el e.2.1]) :: T, (it, some (.iter (.mapl b) ck (S ++ [e.2.2]) ck)) :: H, nx, df⟩) :
    Reg C ops i Q ⟨T, H, nx, df⟩ := fun ρ Φ a w hcc Q' hQ => by
  obtain ⟨h1, h2⟩ := range_at ho
  rw [h2]
  simp only [wpOpsIn, h1]
  rw [wantedA_eq hcc.tm hg, hc, if_pos rfl]
  have e1 := ev_con hcc.tm hx
  simp only [Con] at e1
  obtain ⟨y, e2, e3⟩ := e1
  obtain ⟨y', ob, e4, e5, r, e6, rfl, e7⟩ := hcc.mem.at_ it _ hit
  rw [e2] at e4; cases e4
  have e6' := e6
  simp only [Con] at e6'
  obtain ⟨z, f1, f2⟩ := e6'
  cases f2
  obtain ⟨z', ob, f3, f4, l, f5, rfl⟩ := hcc.mem.at_ b _ hb
  rw [f1] at f3; cases f3
  have hl : ∀ e ∈ l, e.born < ck := fun e he => by
    obtain ⟨x, hx, h3, _⟩ := conE_mem f5 e he
    rw [h3]; exact hM x hx
  have hop' : ∀ e, o.op ≠ .defer e := by intro e; rw [hop]; simp
  have hex : ∀ v w', (Instr.next (a.eval x) false o.type).run C.P w = .ok v w' → (execOp a.eval o).run C.P w = .ok (.value v) w' := fun v w' h => by
    unfold execOp; rw [hop]; simp [h]
  have e3' : a.eval x = .pointer (some ⟨y.1, 0, none⟩) := by rw [e3, e7]
  have hbH : ∀ e ∈ M, ∃ e' ∈ l, e'.born = e.2.2 := fun e he => by
    have h4 : e.2.2 ∈ l.map (·.born) := by rw [conE_born f5]; exact List.mem_map.2 ⟨e, he, rfl⟩
    obtain ⟨e', h5, h6⟩ := List.mem_map.1 h4; exact ⟨e', h5, h6⟩
  rcases run_next (P := C.P) (ty := o.type) e5 f4 hl with ⟨h3, h4⟩ | ⟨e, he, dr, h3, h4⟩
  · refine wp_of_run hop' (.inl (hex _ _ (by rw [e3']; exact h4))) ?_
    have := hcc.step (ups := []) (v := .tup [.bool false]) (x := .tuple #[.bool false]) (d := some d) (Post.same hcc.mem nx) (by simp only [Con]; exact ⟨[.bool false], conL_cons mk_bool conL_nil, rfl⟩) (by simpa using ltOf ht) (Nat.le_refl _)
    rw [hd]
    exact kend (fun x hx => by obtain ⟨e', h5, h6⟩ := hbH x hx; rw [← h6]; exact h3 e' h5) ρ Φ _ w this Q' hQ
  · refine wp_of_run hop' (.inl (hex _ _ (by rw [e3']; exact h4))) ?_
    obtain ⟨x', hx', h5, h6, h7⟩ := conE_mem f5 e he
    have hdr : ∀ r, Φ r → ({ w with drawn := dr } : World).heap[r]? = w.heap[r]? := fun _ _ => rfl
    have hp := (Post.set (hcc.mem.drewn dr) nx (k' := .iter (.mapl b) ck (S ++ [e.born]) ck) hit e2 (oneNew_put (w := { w with drawn := dr }) (o := .mapIter (some z.1) ck (S ++ [e.born]).toArray ck) e5) ⟨z.1, Con.mono ρ.le_refl Φ.le_refl hdr _ e6, rfl, e7⟩).undraw
    rw [← gt_upG] at hp
    have hstab : ∀ r, Φ r → (({ w with drawn := dr } : World).putObj y.1 (.mapIter (some z.1) ck (S ++ [e.born]).toArray ck)).heap[r]? = w.heap[r]? := hp.stab
    have := hcc.step (ups := [(it, some (.iter (.mapl b) ck (S ++ [e.born]) ck))]) (v := .tup [.bool true, ek x'.1, el x'.2.1]) (x := .tuple #[.bool true, e.key, e.val]) (d := some d) hp
      (by simp only [Con]; exact ⟨[.bool true, e.key, e.val], conL_cons mk_bool (conL_cons (Con.mono ρ.le_refl Φ.le_refl hstab _ h6) (conL_cons (Con.mono ρ.le_refl Φ.le_refl hstab _ h7) conL_nil)), rfl⟩) (by simpa using ltOf ht) (Nat.le_refl _)
    rw [hd]
    rw [h5] at this h3
    have hk := kstep x' hx' h3
    rw [h5]
    exact hk ρ Φ _ _ this Q' hQ
def stamps (P : List (K × V × Nat)) : List Nat := P.map (·.2.2)
theorem perm_end {L P R : List (K × V × Nat)} {M : List (K × V × Nat)} {ck : Nat} (hok : MOk ck L) (hp : (P ++ R).Perm L) (hR : ∀ e ∈ R, e ∈ M) (h : ∀ e ∈ M, e.2.2 ∈ stamps P) : R = [] := by
  cases R with
  | nil => rfl
  | cons e R =>
    have h1 := h e (hR e (by simp))
    have h2 := (hp.map (·.2.2)).nodup_iff.2 hok.st
    rw [List.map_append, List.nodup_append] at h2
    exact absurd rfl (h2.2.2 _ h1 e.2.2 (by simp))
theorem perm_step {L P R : List (K × V × Nat)} (hp : (P ++ R).Perm L) {e : K × V × Nat} (he : e ∈ L) (hn : e.2.2 ∉ stamps P) : ∃ R1 R2, R = R1 ++ e :: R2 ∧ ((P ++ [e]) ++ (R1 ++ R2)).Perm L := by
  have h1 : e ∈ P ++ R := hp.mem_iff.2 he
  rcases List.mem_append.1 h1 with h1 | h1
  · exact absurd (List.mem_map.2 ⟨e, h1, rfl⟩) hn
  · obtain ⟨R1, R2, rfl⟩ := List.append_of_mem h1
    refine ⟨R1, R2, rfl, ?_⟩
    refine List.Perm.trans ?_ hp
    rw [List.append_assoc]
    refine List.Perm.append_left P ?_
    rw [List.singleton_append]
    exact (List.perm_middle).symm
theorem stamps_snoc (P : List (K × V × Nat)) (e : K × V × Nat) : stamps (P ++ [e]) = stamps P ++ [e.2.2] := by simp [stamps]
theorem RnextP {L P R : List (K × V × Nat)} {ops : Array Oper} {i : Nat} {Q : St → Prop} {o : Oper} {x : Operand} {it b d ck : Nat} {M : List (K × V × Nat)} {c : Bool} (hok : MOk ck L) (hp : (P ++ R).Perm L) (hRM : ∀ e ∈ R, e ∈ M) (hML : ∀ e ∈ M, e ∈ L)
    (ho : nth ops.toList i = some o) (hg : wantedA ops.toList T o = some c) (hc : c = true) (hop : o.op = .next x false) (hd : o.dst = some d) (ht : d.blt C.nt = true) (hx : ev T x = some (.ptr it 0)) (hit : gt H it = some (.iter (.mapl b) ck (stamps P) ck)) (hb : gt H b = some (.map (mE ek el M) ck))
    (kend : R = [] → Reg C ops (i + 1) Q ⟨(d, .tup [.bool false]) :: T, H, nx, df⟩)
    (kstep : ∀ e R1 R2, e ∈ M → R = R1 ++ e :: R2 → ((P ++ [e]) ++ (R1 ++ R2)).Perm L → Reg C ops (i + 1) Q ⟨(d, .tup [.bool true, ek e.1, el e.2.1]) :: T, (it, some (.iter (.mapl b) ck (stamps (P ++ [e])) ck)) :: H, nx, df⟩) :
    Reg C ops i Q ⟨T, H, nx, df⟩ :=
  Rnext ho hg hc hop hd ht hx hit hb (fun e he => hok.lt e (hML e he)) (fun h => kend (perm_end hok hp hRM h)) fun e he hn => by
    obtain ⟨R1, R2, h1, h2⟩ := perm_step hp (hML e he) hn
    rw [← stamps_snoc]; exact kstep e R1 R2 he h1 h2
theorem U_entryM {d : Option Tmp} {ty : TypeId} {pos : String} {after : Array Edge} {g : Option (Nat × Bool)} {x : Operand} {it b ck : Nat} {P M : List (K × V × Nat)} {e : K × V × Nat} (hx : ev T x = some (.ptr it 0)) (hit : gt H it = some (.iter (.mapl b) ck (stamps (P ++ [e])) ck)) (hb : gt H b = some (.map (mE ek el M) ck)) (hM : (M.map (·.2.2)).Nodup) (he : e ∈ M) :
    OpU C ⟨d, .entry x, ty, pos, after, g⟩ T H nx (.tup [ek e.1, el e.2.1]) [] nx :=
  OpU.of_value (by intro c; simp) fun ρ Φ a w h2 h3 => by
    have e1 := ev_con h2 hx
    simp only [Con] at e1
    obtain ⟨y, e2, e3⟩ := e1
    obtain ⟨y', ob, e4, e5, r, e6, rfl, e7⟩ := h3.at_ it _ hit
    rw [e2] at e4; cases e4
    have e6' := e6
    simp only [Con] at e6'
    obtain ⟨z, f1, f2⟩ := e6'
    cases f2
    obtain ⟨z', ob, f3, f4, l, f5, rfl⟩ := h3.at_ b _ hb
    rw [f1] at f3; cases f3
    have hfind : ∀ (M : List (K × V × Nat)) (l : List MapEntry), ConE ρ Φ w (mE ek el M) l → (M.map (·.2.2)).Nodup → e ∈ M → ∃ e', l.find? (·.born == e.2.2) = some e' ∧ Con ρ Φ w (ek e.1) e'.key ∧ Con ρ Φ w (el e.2.1) e'.val := by
      intro M
      induction M with
      | nil => intro l _ _ h; simp at h
      | cons x M ih =>
        intro l hc hn hm
        simp only [mE, List.map_cons, ConE] at hc
        obtain ⟨p, q, l', rfl, h1, h2, h3⟩ := hc
        simp only [List.map_cons, List.nodup_cons] at hn
        rcases List.mem_cons.1 hm with rfl | hm
        · exact ⟨⟨p, q, e.2.2⟩, by simp, h1, h2⟩
        · have hne : x.2.2 ≠ e.2.2 := fun h => hn.1 (h ▸ List.mem_map.2 ⟨e, hm, rfl⟩)
          obtain ⟨e', g1, g2⟩ := ih l' h3 hn.2 hm
          exact ⟨e', by rw [List.find?_cons_of_neg (by simpa using hne)]; exact g1, g2⟩
    obtain ⟨e', g1, g2, g3⟩ := hfind M l f5 hM he
    refine ⟨.tuple #[e'.key, e'.val], ?_, by simp only [Con]; exact ⟨[e'.key, e'.val], conL_cons g2 (conL_cons g3 conL_nil), rfl⟩⟩
    have r1 : (getObj y.1).run C.P w = .ok (.mapIter (some z.1) ck (stamps (P ++ [e])).toArray ck) w := by simp [getObj, Sem.run, e5]
    have r2 : (stamps (P ++ [e])).toArray.back? = some e.2.2 := by rw [stamps_snoc]; simp
    have e3' : a.eval x = .pointer (some ⟨y.1, 0, none⟩) := by rw [e3, e7]
    have r3 : l.toArray.find? (fun x => x.born == e.2.2) = some e' := by rw [List.find?_toArray]; exact g1
    simp only [execOp, Instr.entry, e3', Sem.run_bind, r1, Result.andThen_ok, r2, run_getMap f4, r3, Sem.run_pure]
    simp [r3]
theorem renE_data {σ : Nat → Nat} : ∀ (l : List (AV × AV × Nat)), dataE l → renE σ l = l
  | [], _ => rfl
  | (k, v, n) :: l, h => by
    obtain ⟨h1, h2, h3⟩ := dataE_cons.1 h
    simp only [renE, ren_data k h1, ren_data v h2, renE_data l h3]
theorem belbE_data {n : Nat} : ∀ (l : List (AV × AV × Nat)), dataE l → belbE n l = true
  | [], _ => rfl
  | (k, v, m) :: l, h => by
    obtain ⟨h1, h2, h3⟩ := dataE_cons.1 h
    simp only [belbE, belb_data k h1, belb_data v h2, belbE_data l h3, Bool.and_self]
theorem rMp {σ : Nat → Nat} {n b ck : Nat} {es : List (AV × AV × Nat)} {H : AH} (hd : dataE es) (h : gt H (σ b) = some (.map es ck)) (hb : b.blt n = true) : rowTo σ n b (some (.map es ck)) H := fun _ e => by
  cases e; exact ⟨by rw [h]; simp only [ABlk.ren, renE_data es hd], ltOf hb, by simp only [ABlk.belb, belbE_data es hd]⟩
theorem fr_data {b : Nat} {cs : List AV} : ∀ (v : AV), v.data → v.fr b cs = v := fun v h => fr_nob v (by
  have := nobL_data (b := b) [v] (by simp only [dataL, isdL, Bool.and_true]; exact h)
  simpa only [nobL, Bool.and_true] using this)
theorem frE_data {b : Nat} {cs : List AV} : ∀ (l : List (AV × AV × Nat)), dataE l → frE b cs l = l
  | [], _ => rfl
  | (k, v, n) :: l, h => by
    obtain ⟨h1, h2, h3⟩ := dataE_cons.1 h
    simp only [frE, fr_data k h1, fr_data v h2, frE_data l h3]
theorem rFMp {b ck : Nat} {cs : List AV} {es : List (AV × AV × Nat)} {k : Option ABlk} (hd : dataE es) (h : k = some (.map es ck)) : RowF b cs k (some (.map es ck)) := rF h (by simp only [ABlk.fr, frE_data es hd])
theorem mapAt {α β : Type} {f : α → β} {l : List α} {i : Nat} {x : β} (h : (l.map f)[i]? = some x) : ∃ hi : i < l.length, f l[i] = x := by
  rw [List.getElem?_map] at h
  cases e : l[i]? with
  | none => rw [e] at h; cases h
  | some a => rw [e] at h; cases h; obtain ⟨h1, h2⟩ := List.getElem?_eq_some_iff.1 e; exact ⟨h1, by rw [h2]⟩
theorem bleR (n : Nat) : n.ble n = true := by rw [Nat.ble_eq]; exact Nat.le_refl n
theorem bltR (n : Nat) : n.blt (n + 1) = true := by rw [Nat.blt_eq]; exact Nat.lt_succ_self n
end next
end Go.AE
end

section
namespace Go.AE
open Go.RowKit
section
variable {C : Ctx} {T : AT} {H : AH} {nx : Nat} {d : Option Tmp} {ty : TypeId} {pos : String} {after : Array Edge} {g : Option (Nat × Bool)}
theorem numsOf_map {k : IntKind} : ∀ (l : List Int), numsOf (l.map (AV.int k)) = some l
  | [] => rfl
  | a :: l => by simp [numsOf, numsOf_map l]
theorem kindsA_map {k : IntKind} {n : Nat} : ∀ {l : List Int}, l.length = n → kindsA (l.map (AV.int k)) = List.replicate n k
  | [], h => by subst h; rfl
  | a :: l, h => by subst h; simp [kindsA, kindsA_map (l := l) rfl, List.replicate_succ]
theorem allOne {α : Type} {f : α → AV} (h : ∀ x, (f x).one = true) (l : List α) : (l.map f).all AV.one = true := by simp [h]
theorem rMp' {σ : Nat → Nat} {n b ck ck' : Nat} {es es' : List (AV × AV × Nat)} {H : AH} (hd : dataE es) (h : gt H (σ b) = some (.map es' ck')) (e1 : es' = es) (e2 : ck' = ck) (hb : b.blt n = true) : rowTo σ n b (some (.map es ck)) H := by
  subst e1; subst e2; exact rMp hd h hb
end
end Go.AE
end

section
namespace Go.AE
open Go.RowKit
section
variable {C : Ctx} {T : AT} {H : AH} {nx : Nat} {d : Option Tmp} {ty : TypeId} {pos : String} {after : Array Edge} {g : Option (Nat × Bool)}
theorem U_sliceAR {t len e z l h : Nat} {x : Operand} {lo hi : Option Operand} {cs cs' : List AV} [hT : TyAr C.P t len e z] (hx : ev T x = some (.rop cs 0)) (hlo : BndIs T lo 0 l) (hhi : BndIs T hi len h) (h1 : l ≤ h) (h2 : h ≤ len) (hlc : l < len) (hc : cs.drop (l * z) = cs') :
    OpU C ⟨d, .slice t x lo hi none, ty, pos, after, g⟩ T H nx (.ros cs' (h - l) (some (len - l))) [] nx :=
  OpU.of_value (by intro c; simp) fun ρ Φ a w h3 _ => by
    subst hc
    have hp := ev_con h3 hx
    simp only [Con] at hp
    obtain ⟨r, base, xs, f1, f2, f3, f4, f5⟩ := hp
    have hb : (Instr.sliceBounds false len len (lo.map a.eval) (hi.map a.eval) none).run C.P w = .ok (l, h, len) w := by
      have e3 := bndIs_con h3 hlo
      have e4 := bndIs_con h3 hhi
      unfold Instr.sliceBounds
      cases hhh : hi.map a.eval with
      | none =>
        rw [hhh] at e4; simp only at e4; subst e4
        cases hll : lo.map a.eval with
        | none => rw [hll] at e3; simp only at e3; subst e3; simp
        | some v => rw [hll] at e3; obtain ⟨kk, rfl⟩ := e3; simp [run_sliceBound rfl h1]
      | some u =>
        rw [hhh] at e4; obtain ⟨kk, rfl⟩ := e4
        cases hll : lo.map a.eval with
        | none => rw [hll] at e3; simp only at e3; subst e3; simp [run_sliceBound rfl h2]
        | some v => rw [hll] at e3; obtain ⟨kk', rfl⟩ := e3; simp [run_sliceBound rfl h1, run_sliceBound rfl h2]
    refine ⟨.slice (some ⟨r, base + 0 + l * z, none⟩) (h - l) (len - l), ?_, ?_⟩
    · simp only [execOp, f2, Sem.run_bind, Option.map_none, Instr.sliceAt, run_underlying hT.un, Instr.sureAddr, Sem.run_pure, Result.andThen_ok, hb, hT.size, if_neg (show ¬ len = l by omega), add_at]
    · simp only [Con]
      refine .inr ⟨r, base + 0 + l * z, xs.drop (l * z), len - l, f1, J, by omega, fun m hm => by cases hm; rfl, conL_drop _ f3, fun j v hj => ?_, dataL_drop f5 _⟩
      rw [List.getElem?_drop] at hj
      have := f4 _ _ hj
      rw [Nat.add_zero, Nat.add_assoc]; exact this
end
end Go.AE
end

section
namespace Go.AE
open Go.RowKit
theorem OpU.frz {C : Ctx} {o : Oper} {T : AT} {H : AH} {nx nx' b n z : Nat} {t : TypeId} {cs : List AV} {ups : AH} (h : OpU C o T H nx (.out b n z) ups nx') (hg : gt (ups ++ H) b = outB cs t n) (hn : 0 < n) (hd : dataL cs) (hb1 : nx ≤ b) (hb2 : b < nx') : OpU C o T H nx (.ros cs n none) ((b, none) :: ups) nx' := by
  obtain ⟨m, rfl⟩ : ∃ m, n = m + 1 := ⟨n - 1, by omega⟩
  have hg' : gt (ups ++ H) b = some (.cells cs t) := hg
  intro ρ Φ a w h1 h2 h3 K Q kk
  refine h ρ Φ a w h1 h2 h3 K Q fun ρ' Φ' x w' hp hx => ?_
  have hne : gt (ups ++ H) b ≠ none := by rw [hg']; simp
  obtain ⟨x1, o1, e1, e2, pre, xs, rest, e3, e4, e5, e6⟩ := hp.mem.at_ b _ hg'
  have hm := hp.mem.freeze e1 hne
  have hle : Fz.le Φ' (fun r => Φ' r ∨ r = x1.1) := fun _ hr => .inl hr
  have hxs := e3.mono ρ'.le_refl hle (fun _ _ => rfl)
  have hat : At w' x1.1 x1.2.1 xs := e4 ▸ at_of_cells (e6 ▸ e2)
  have hx2 := Con.fr e1 (.inr rfl) hxs hat hd (.out b (m + 1) z) (Con.mono ρ'.le_refl hle (fun _ _ => rfl) _ hx)
  simp only [AV.fr, Nat.beq_refl, if_true, List.drop_zero] at hx2
  have hp' := hp.more (l' := ((b, none) :: ups).map (·.1)) (fun c hc => List.mem_cons_of_mem _ hc)
  refine kk ρ' _ x w' ⟨hp'.le, hp'.dom, Fz.le_trans hp'.fle hle, fun r hr => ?_, hp'.keep, hp'.stab, fun c y hc => hp'.bnew c y fun e => hc ?_, ?_, hp'.dk.trans (hp.mem.dkFreeze hg' e1)⟩ hx2
  · rcases hr with hr | rfl
    · exact hp'.fnew r hr
    · rcases hp'.bnew b x1 hne (h1 b hb1 hb2) e1 with h5 | h5
      · exact .inr (.inl h5)
      · exact .inr (.inr ⟨h5, hp.mem.own b x1 hne e1⟩)
  · rw [List.cons_append, gt_upG]; unfold upG; split
    · rfl
    · exact e
  · rw [List.cons_append, gt_upG]; exact hm
end Go.AE
end

section
namespace Go.AE
open Go.RowKit
section
variable {C : Ctx} {T : AT} {H : AH} {nx : Nat} {d : Option Tmp} {ty : TypeId} {pos : String} {after : Array Edge} {g : Option (Nat × Bool)}
theorem U_eqlE {t t' : TypeId} {x y : Operand} {k : IntKind} {a b : Int} (hx : ev T x = some (.int k a)) (hy : ev T y = some (.int k b)) (e : a = b) : OpU C ⟨d, .binOp .eql t x y t', ty, pos, after, g⟩ T H nx (.bool true) [] nx := by
  have h := U_eql (C := C) (t := t) (t' := t') (d := d) (ty := ty) (pos := pos) (after := after) (g := g) (H := H) (nx := nx) hx hy
  rwa [decide_eq_true e] at h
theorem U_neqE {t t' : TypeId} {x y : Operand} {k : IntKind} {a b : Int} (hx : ev T x = some (.int k a)) (hy : ev T y = some (.int k b)) (e : a = b) : OpU C ⟨d, .binOp .neq t x y t', ty, pos, after, g⟩ T H nx (.bool false) [] nx := by
  have h := U_neq (C := C) (t := t) (t' := t') (d := d) (ty := ty) (pos := pos) (after := after) (g := g) (H := H) (nx := nx) hx hy
  rwa [decide_eq_false (fun k => k e)] at h
end
end Go.AE
end

section
namespace Go.AE
theorem OpU.toB {C : Ctx} {o : Oper} {T : AT} {H : AH} {nx nx' : Nat} {v v' : Bool} {ups : AH} (h : OpU C o T H nx (.bool v) ups nx') (e : v = v') : OpU C o T H nx (.bool v') ups nx' := e ▸ h
theorem srcO {H : AH} {b o n : Nat} {cs : List AV} {t : TypeId} (hg : gt H b = outB cs t n) (hn : 0 < n) : src H (.ptr b o) = some (cs, o) := by
  obtain ⟨m, rfl⟩ : ∃ m, n = m + 1 := ⟨n - 1, by omega⟩
  simp only [src, hg, outB]
end Go.AE
end

section
namespace Go.AE
open Go.RowKit
abbrev Row := Nat → Int
def rowC (n : Nat) (r : Row) : List AV := (List.range n).map fun h => .int .i64 (r h)
theorem rowC_len {n : Nat} {r : Row} : (rowC n r).length = n := by simp [rowC]
theorem rowC_data {n : Nat} (r : Row) : dataL (rowC n r) := mapD (fun _ => rfl) _
theorem rowC_get {n h : Nat} {r : Row} (hh : h < n) : (rowC n r)[h]? = some (.int .i64 (r h)) := by simp [rowC, hh]
theorem flatGet {α : Type} {f : α → List AV} {z : Nat} (hf : ∀ e, (f e).length = z) : ∀ {es : List α} {k : Nat} (h : k < es.length) (j : Nat), j < z → (es.flatMap f)[k * z + j]? = (f es[k])[j]?
  | [], k, h, _, _ => by simp at h
  | e :: es, 0, _, j, hj => by simp only [List.flatMap_cons, List.getElem_cons_zero, Nat.zero_mul, Nat.zero_add]; rw [List.getElem?_append_left (by rw [hf]; exact hj)]
  | e :: es, k + 1, h, j, hj => by
    simp only [List.flatMap_cons, List.getElem_cons_succ]
    rw [List.getElem?_append_right (by rw [hf, Nat.add_mul]; omega), hf, show (k + 1) * z + j - z = k * z + j by rw [Nat.add_mul]; omega]
    exact flatGet hf (by simpa using h) j hj
theorem rowG {n k h : Nat} {L : List Row} (hk : k < L.length) (hh : h < n) : (L.flatMap (rowC n))[k * n + h * 1]? = some (.int .i64 (L[k] h)) := by
  rw [Nat.mul_one, flatGet (fun _ => rowC_len) hk h hh, rowC_get hh]
theorem rowG0 {n k h : Nat} {L : List Row} (hk : k < L.length) (hh : h < n) : (L.flatMap (rowC n))[0 + k * n + h * 1]? = some (.int .i64 (L[k] h)) := by
  rw [Nat.zero_add]; exact rowG hk hh
def updR (r : Row) (h : Nat) (v : Int) : Row := fun x => if x = h then v else r x
theorem rowC_set {n h : Nat} {r : Row} {v : Int} : (rowC n r).set h (.int .i64 v) = rowC n (updR r h v) := by
  apply List.ext_getElem?
  intro i
  rw [List.getElem?_set]
  by_cases hi : i < n
  · rw [rowC_get hi, rowC_get hi, rowC_len]
    unfold updR
    by_cases e : h = i
    · subst e; rw [if_pos rfl, if_pos hi, if_pos rfl]
    · rw [if_neg e, if_neg (fun x => e x.symm)]
  · rw [rowC_len, List.getElem?_eq_none (by rw [rowC_len]; omega), List.getElem?_eq_none (by rw [rowC_len]; omega)]
    split
    · rw [if_neg (by omega)]
    · rfl
theorem rowS' {n : Nat} {v : Int} : ∀ {L : List Row} {k h : Nat} (hk : k < L.length) (_ : h < n), (L.flatMap (rowC n)).set (k * n + h) (.int .i64 v) = (L.set k (updR L[k] h v)).flatMap (rowC n)
  | [], k, h, hk, _ => by simp at hk
  | e :: L, 0, h, _, hh => by
    simp only [List.flatMap_cons, List.set_cons_zero, List.getElem_cons_zero, Nat.zero_mul, Nat.zero_add]
    rw [List.set_append_left _ _ (by rw [rowC_len]; exact hh), rowC_set]
  | e :: L, k + 1, h, hk, hh => by
    simp only [List.flatMap_cons, List.set_cons_succ, List.getElem_cons_succ]
    rw [List.set_append_right _ _ (by rw [rowC_len, Nat.add_mul]; omega), rowC_len, show (k + 1) * n + h - n = k * n + h by rw [Nat.add_mul]; omega, rowS' (by simpa using hk) hh]
theorem rowS {n k h : Nat} {v : Int} {L : List Row} (hk : k < L.length) (hh : h < n) : setC (L.flatMap (rowC n)) (0 + k * n + h * 1) [.int .i64 v] = (L.set k (updR L[k] h v)).flatMap (rowC n) := by
  rw [← rowS' hk hh]
  simp [setC]
theorem rowsLt {n k h : Nat} {L : List Row} (hk : k < L.length) (hh : h < n) : 0 + k * n + h * 1 + 1 ≤ (L.flatMap (rowC n)).length := by
  rw [flat_len (z := n) (fun _ => rowC_len)]
  have := Nat.mul_le_mul_right n (show k + 1 ≤ L.length by omega)
  rw [Nat.add_mul] at this
  omega
def rowsP (Z : Nat) (P : Nat → Nat → Bool) : List Row := (List.range Z).map fun z h => if P z h then 1 else 0
theorem rowsP_len {Z : Nat} {P : Nat → Nat → Bool} : (rowsP Z P).length = Z := by simp [rowsP]
theorem rowsP_get {Z z : Nat} {P : Nat → Nat → Bool} (h : z < (rowsP Z P).length) : (rowsP Z P)[z] = fun h => if P z h then 1 else 0 := by simp [rowsP]
def setP (P : Nat → Nat → Bool) (z j : Nat) : Nat → Nat → Bool := fun x y => P x y || (x == z && y == j)
theorem rowsP_set {Z z j : Nat} {P : Nat → Nat → Bool} (h : z < (rowsP Z P).length) : (rowsP Z P).set z (updR (rowsP Z P)[z] j 1) = rowsP Z (setP P z j) := by
  apply List.ext_getElem (by simp [rowsP])
  intro i h1 h2
  rw [List.getElem_set, rowsP_get h2]
  split
  · rename_i e; subst e
    rw [rowsP_get h]
    funext y
    unfold updR setP
    by_cases e : y = j
    · subst e; simp
    · simp [e]
  · rename_i e
    rw [rowsP_get (by simpa using h1)]
    funext y
    have e' : (i == z) = false := by simpa using fun h => e h.symm
    unfold setP
    rw [e']; simp
end Go.AE
end

section
namespace Go.AE
open Go.RowKit
section ops
variable {C : Ctx} {T : AT} {H : AH} {nx : Nat} {d : Option Tmp} {ty : TypeId} {pos : String} {after : Array Edge} {g : Option (Nat × Bool)}
theorem OneNew.same {w : World} {r : Nat} {o : Obj} (h : w.heap[r]? = some o) : OneNew w w r o := ⟨rfl, rfl, rfl, rfl, h, fun _ _ => rfl⟩
theorem U_sliceQ {t e z b n : Nat} {x : Operand} {lo : Option Operand} {cs cs' : List AV} [hT : TySl C.P t e z] (hx : ev T x = some (.sliceo b 0 (n + 1) z)) (hlo : BndIs T lo 0 1) (hg : gt H b = some (.cells cs e)) (hl : cs.length = (n + 1) * z) (hc : cs.drop z = cs') :
    OpU C ⟨d, .slice t x lo none none, ty, pos, after, g⟩ T H nx (.sliceo nx 0 n z) [(nx, some (.cells cs' e)), (b, none)] (nx + 1) :=
  OpU.of_run (by intro c; simp) fun ρ Φ a w hf h3 h4 => by
    subst hc
    have hcx := ev_con h3 hx
    simp only [Con] at hcx
    obtain ⟨yy, k, f1, f2, f3, f4⟩ := hcx
    obtain ⟨yy', ob, f5, f6, pre, xs, rest, f7, f8, f9, rfl⟩ := h4.at_ _ _ hg
    rw [f1] at f5; cases f5
    have hlx := conL_len f7
    have hrun := run_sliceAt (P := C.P) (w := w) (t := t) (ad := some ⟨yy.1, yy.2.1 + 0, none⟩) (n := n + 1) (k := k) (l := 1) (h := n + 1) (m := k) (hi := none) (bndIs_con h3 hlo) rfl (mx := none) rfl (by omega) f2 (Nat.le_refl _)
    -- where the rest begins
    have hex : ∃ o', (if k = 1 then some (⟨yy.1, yy.2.1 + 0, none⟩ : Addr) else (some (⟨yy.1, yy.2.1 + 0, none⟩ : Addr)).map (·.add (1 * z))) = some ⟨yy.1, yy.2.1 + o', none⟩ ∧ o' + (k - 1) * z ≤ yy.2.2 ∧ o' ≤ xs.length ∧ (n = 0 ∧ o' = 0 ∨ o' = z) := by
      by_cases h1 : k = 1
      · subst h1; exact ⟨0, by simp, by simp, Nat.zero_le _, .inl ⟨by omega, rfl⟩⟩
      · refine ⟨z, by simp [h1, add_at], ?_, ?_, .inr rfl⟩
        · obtain ⟨m, rfl⟩ : ∃ m, k = m + 1 := ⟨k - 1, by omega⟩
          rw [Nat.succ_mul] at f3
          rw [Nat.add_sub_cancel]; omega
        · rw [hlx, hl, Nat.succ_mul]; omega
    obtain ⟨o', g1, g2, g3, g4⟩ := hex
    have hxz : xs.length = (n + 1) * z := by rw [hlx, hl]
    have hp := Post.rename h4 (nx := nx) (hf nx (Nat.le_refl _) (Nat.lt_succ_self _)) (k' := .cells (cs.drop z) e) (y := (yy.1, yy.2.1 + o', yy.2.2 - o')) hg f1 rfl (OneNew.same f6)
      (by
        rcases g4 with ⟨h0, rfl⟩ | rfl
        · subst h0
          refine ⟨pre, xs.drop z, xs ++ rest, conL_drop z f7, by simpa using f8, ?_, ?_⟩
          · have : xs.drop z = [] := List.drop_eq_nil_of_le (by rw [hxz]; omega)
            rw [this]; simp; exact f9
          · have : xs.drop z = [] := List.drop_eq_nil_of_le (by rw [hxz]; omega)
            rw [this]; simp
        · refine ⟨pre ++ xs.take o', xs.drop o', rest, conL_drop o' f7, by simp [f8]; omega, by simp; omega, ?_⟩
          congr 1
          have := List.take_append_drop o' xs
          simp only [List.append_assoc]; rw [← List.append_assoc (xs.take o') (xs.drop o'), this])
    refine ⟨ρ.upd nx (yy.1, yy.2.1 + o', yy.2.2 - o'), Φ, .slice (some ⟨yy.1, yy.2.1 + o', none⟩) n (k - 1), w, .inl ?_, ?_, ?_⟩
    · rw [g1] at hrun
      simp only [execOp, f4, Sem.run_bind, Option.map_none, hrun, Result.andThen_ok, Sem.run_pure]
      rw [show n + 1 - 1 = n by omega]
    · rw [List.cons_append, List.cons_append, List.nil_append, gt_upG, gt_upG]
      exact hp.more (by simp)
    · simp only [Con]
      refine ⟨_, k - 1, Env.upd_same _ _ _, by omega, ?_, rfl⟩
      simp only; omega
theorem U_buildSliceQ {t : TypeId} {n e k : Nat} {ps : Array (Nat × Operand)} {vs : List (Nat × AV)} {z cs : List AV} [hT : TySl C.P t e k] [hz : TyZero C.P e z] (hk : z.length = k) (hlim : n * k ≤ 2 ^ 24) (hv : evP T ps.toList = some vs) (hf : fillA (fun i => some (i * k, k)) (List.replicate n z).flatten vs = some cs) (hcl : cs.length = n * k) :
    OpU C ⟨d, .buildSlice t n ps, ty, pos, after, g⟩ T H nx (.sliceo nx 0 n k) [(nx, some (.cells cs e))] (nx + 1) :=
  OpU.of_run (by intro c; simp) fun ρ Φ a w h1 h2 h3 => by
    obtain ⟨zv, hz1, hz2⟩ := hz.zero
    have hzc := cvSL_con (ρ := ρ) (Φ := Φ) (w := w) hz2
    have hzl := conL_len hzc
    have hzs : zv.cells.size = k := by rw [← hk, ← hzl]; simp
    have hzz : ∃ Z : Array Value, ((n * k = 0 ∧ Z = #[]) ∨ (n * k ≠ 0 ∧ Z = zv.cells)) ∧ ((Array.range (n * k)).map (Z[· % Z.size]!)).toList = (List.replicate n zv.cells.toList).flatten := by
      by_cases h0 : n * k = 0
      · refine ⟨#[], .inl ⟨h0, rfl⟩, ?_⟩
        rw [h0]
        have : (List.replicate n zv.cells.toList).flatten.length = 0 := by simp [hzs, h0]
        rw [List.length_eq_zero_iff.1 this]; simp
      · refine ⟨zv.cells, .inr ⟨h0, rfl⟩, ?_⟩
        rw [← hzs]; exact zeros_eq zv.cells n
    obtain ⟨Z, hZ1, hZ2⟩ := hzz
    have hc0 : ConL ρ Φ w (List.replicate n z).flatten ((Array.range (n * k)).map (Z[· % Z.size]!)).toList := by rw [hZ2]; exact conL_flat hzc n
    obtain ⟨ys, e1, e2⟩ := fill_con (evP_con h2 hv) hc0 hf
    have hyl := conL_len e2
    rw [hcl] at hyl
    have := new_at h3 h1 e e2
    refine ⟨_, _, .slice (some ⟨w.heap.size, 0, none⟩) n n, _, .inl ?_, this, by simp only [Con]; exact ⟨_, n, Env.upd_same _ _ _, Nat.le_refl _, by simp only; omega, rfl⟩⟩
    have e1' : Instr.fill (fun i => some (i * k, k)) ((Array.range (n * k)).map (Z[· % Z.size]!)) (ps.map fun (i, x) => (i, a.eval x)).toList = some ys := by rw [Array.toList_map]; exact e1
    rcases hZ1 with ⟨h0, rfl⟩ | ⟨h0, rfl⟩
    · simp only [execOp, Instr.buildSlice, Sem.run_bind, run_underlying hT.un, Result.andThen_ok, hT.size, show ¬ n * k > 2 ^ 24 by omega, if_false, if_pos h0, e1', newRow, run_newObj_alloc, Sem.run_pure]
    · simp only [execOp, Instr.buildSlice, Sem.run_bind, run_underlying hT.un, Result.andThen_ok, hT.size, show ¬ n * k > 2 ^ 24 by omega, if_false, if_neg h0, hz1, e1', newRow, run_newObj_alloc, Sem.run_pure]
theorem U_sliceQ' {t e z b n n' : Nat} {x : Operand} {lo : Option Operand} {cs cs' : List AV} [hT : TySl C.P t e z] (hn : n' = n + 1) (hx : ev T x = some (.sliceo b 0 n' z)) (hlo : BndIs T lo 0 1) (hg : gt H b = some (.cells cs e)) (hl : cs.length = n' * z) (hc : cs.drop z = cs') :
    OpU C ⟨d, .slice t x lo none none, ty, pos, after, g⟩ T H nx (.sliceo nx 0 n z) [(nx, some (.cells cs' e)), (b, none)] (nx + 1) := by
  subst hn; exact U_sliceQ hx hlo hg hl hc
theorem U_appQ {sT xT e e' z n n' m b : Nat} {x y : Operand} {v : AV} {cs cs' news : List AV} [hT : TySl C.P sT e z] [hX : TySl C.P xT e' z] [hE : TyElem C.P e z] (hn : n + m = n') (hx : ev T x = some (.sliceo b 0 n z)) (hy : ev T y = some v) (hg : gt H b = some (.cells cs e)) (hl : cs.length = n * z) (h2 : srcS z H v = some (news, m))
    (h1 : news.all AV.one = true) (hlim : n + m ≤ 1000000) (hc : cs ++ news = cs') :
    OpU C ⟨d, .call ⟨.builtin .append, #[x, y], #[sT, xT]⟩, ty, pos, after, g⟩ T H nx (.sliceo nx 0 n' z) [(nx, some (.cells cs' e)), (b, none)] (nx + 1) := by
  subst hn; exact U_appendOpen hx hy hg (by omega) h2 h1 hlim hc
end ops
theorem dropF {α : Type} {f : α → List AV} {z : Nat} (hf : ∀ e, (f e).length = z) : ∀ (l : List α), (l.flatMap f).drop z = l.tail.flatMap f
  | [] => by simp
  | e :: l => by rw [List.flatMap_cons, ← hf e, List.drop_left]; rfl
end Go.AE
end

section
namespace Go.AE
open Go.RowKit
def fam (B : Nat) (f : Nat → List AV) (t : TypeId) (n : Nat) : AH := (List.range n).map fun i => (B + i, some (.cells (f i) t))
inductive Tl (B : Nat) (F : AH) : AH → Prop where
  | nil : Tl B F F
  | cons {c : Nat} {k : Option ABlk} {H : AH} (h : (c.blt B || (B + 9).blt c) = true) (t : Tl B F H) : Tl B F ((c, k) :: H)
theorem offC {B c i : Nat} (h : (c.blt B || (B + 9).blt c) = true) (hi : i < 10) : c ≠ B + i := by
  rw [Bool.or_eq_true] at h
  rcases h with h | h
  · have := ltOf h; omega
  · have := ltOf h; omega
theorem Tl.gt {B : Nat} {F H : AH} (h : Tl B F H) {i : Nat} (hi : i < 10) : gt H (B + i) = gt F (B + i) := by
  induction h with
  | nil => rfl
  | cons h _ ih => rw [gt_cons, if_neg (offC h hi), ih]
section
variable {B n : Nat} {f g : Nat → List AV} {t : TypeId}
theorem fam_succ : fam B f t (n + 1) = fam B f t n ++ [(B + n, some (.cells (f n) t))] := by simp [fam, List.range_succ]
theorem gt_appL (b : Nat) (L : AH) : ∀ (H : AH), (∀ c ∈ H.map (·.1), c ≠ b) → gt (H ++ L) b = gt L b
  | [], _ => rfl
  | (c, k) :: H, h => by
    rw [List.cons_append, gt_cons, if_neg (h c (by simp))]
    exact gt_appL b L H fun d hd => h d (by simp only [List.map_cons, List.mem_cons]; exact .inr hd)
theorem fam_keys {c : Nat} : c ∈ (fam B f t n).map (·.1) ↔ B ≤ c ∧ c < B + n := by
  simp only [fam, List.map_map, List.mem_map, List.mem_range, Function.comp]
  constructor
  · rintro ⟨i, hi, rfl⟩; omega
  · intro h; exact ⟨c - B, by omega, by omega⟩
theorem fam_get : ∀ {n : Nat} {i : Nat}, i < n → gt (fam B f t n) (B + i) = some (.cells (f i) t)
  | n + 1, i, h => by
    rw [fam_succ]
    by_cases e : i = n
    · subst e
      rw [gt_appL]
      · rw [gt_cons, if_pos rfl]
      · intro c hc; have := fam_keys.1 hc; omega
    · rw [gt_appS _ (fam_get (show i < n by omega))]
theorem fam_out {b : Nat} (h : b < B ∨ B + n ≤ b) : gt (fam B f t n) b = none := by
  cases e : gt (fam B f t n) b with
  | none => rfl
  | some k =>
    have := fam_keys.1 (gt_key (by rw [e]; simp))
    omega
theorem toH_app {σ : Nat → Nat} {m : Nat} {X H : AH} : ∀ {A : AH}, toH σ m A H → toH σ m X H → toH σ m (A ++ X) H
  | [], _, k => k
  | (_, _) :: _, ⟨h1, h2⟩, k => ⟨h1, toH_app h2 k⟩
theorem toH_of {σ : Nat → Nat} {m : Nat} {H : AH} : ∀ {A : AH}, (∀ p ∈ A, rowTo σ m p.1 p.2 H) → toH σ m A H
  | [], _ => trivial
  | (b, k) :: A, h => ⟨h (b, k) (by simp), toH_of fun p hp => h p (List.mem_cons_of_mem _ hp)⟩
theorem famTo {σ : Nat → Nat} {m : Nat} {H : AH} (hd : ∀ i, dataL (f i)) (hB : B + n ≤ m) (h : ∀ i, i < n → gt H (σ (B + i)) = some (.cells (f i) t)) : toH σ m (fam B f t n) H := toH_of fun p hp => by
  obtain ⟨i, hi, rfl⟩ := List.mem_map.1 hp
  have hi := List.mem_range.1 hi
  exact rD (hd i) (h i hi) (by rw [Nat.blt_eq]; omega)
theorem famKeep {σ : Nat → Nat} {m : Nat} {H : AH} (hσ : ∀ i, i < 10 → σ (B + i) = B + i) (hT : Tl B (fam B f t n) H) (hn : n ≤ 10) (hB : B + 10 ≤ m) (hd : ∀ i, dataL (f i)) : toH σ m (fam B f t n) H :=
  famTo hd (by omega) fun i hi => by rw [hσ i (by omega), hT.gt (by omega), fam_get hi]
theorem famSet {m i0 : Nat} {H : AH} {x : List AV} (hT : Tl B (fam B f t n) H) (hn : n ≤ 10) (hB : B + 10 ≤ m) (hd : ∀ i, dataL (g i)) (hx : x = g i0) (ho : ∀ i, i < n → i ≠ i0 → g i = f i) : toH id m (fam B g t n) ((B + i0, some (.cells x t)) :: H) :=
  famTo hd (by omega) fun i hi => by
    rw [id, gt_cons]
    by_cases e : B + i0 = B + i
    · have : i = i0 := by omega
      subst this; rw [if_pos rfl, hx]
    · rw [if_neg e, hT.gt (by omega), fam_get hi, ho i hi (by omega)]
theorem toH_skip {m c : Nat} {k : Option ABlk} {H : AH} : ∀ {A : AH}, (∀ p ∈ A, p.1 ≠ c) → toH id m A H → toH id m A ((c, k) :: H)
  | [], _, _ => trivial
  | (b, q) :: A, h, ⟨h1, h2⟩ => ⟨fun x e => by
      obtain ⟨a1, a2⟩ := h1 x e
      refine ⟨?_, a2⟩
      rw [gt_cons, if_neg (fun e2 => h (b, q) (by simp) e2.symm)]; exact a1, toH_skip (fun p hp => h p (List.mem_cons_of_mem _ hp)) h2⟩
def offK (B : Nat) : AH → Bool
  | [] => true
  | (c, _) :: l => (c.blt B || (B + 9).blt c) && offK B l
theorem offK_of {i : Nat} (hi : i < 10) : ∀ {A : AH}, offK B A = true → ∀ p ∈ A, p.1 ≠ B + i
  | [], _, p, hp => absurd hp List.not_mem_nil
  | (c, k) :: A, h, p, hp => by
    simp only [offK, Bool.and_eq_true] at h
    rcases List.mem_cons.1 hp with rfl | hp
    · exact offC h.1 hi
    · exact offK_of hi h.2 p hp
theorem notin_app {σ : Nat → Nat} {m : Nat} : ∀ {a b : List Nat}, notin σ m a = true → notin σ m b = true → notin σ m (a ++ b) = true
  | [], _, _, h => h
  | c :: a, b, h, k => by
    simp only [List.cons_append, notin, Bool.and_eq_true] at h ⊢; exact ⟨h.1, notin_app h.2 k⟩
theorem notin_iff {σ : Nat → Nat} {m : Nat} : ∀ {a : List Nat}, (∀ c ∈ a, m ≠ σ c) → notin σ m a = true
  | [], _ => rfl
  | c :: a, h => by
    simp only [notin, Bool.and_eq_true, Bool.not_eq_true']
    refine ⟨?_, notin_iff fun d hd => h d (List.mem_cons_of_mem _ hd)⟩
    have := h c (by simp)
    cases e : m.beq (σ c) with
    | false => rfl
    | true => exact absurd (Nat.eq_of_beq_eq_true e) this
theorem injL_app {σ : Nat → Nat} : ∀ {a b : List Nat}, injL σ a = true → injL σ b = true → (∀ x ∈ a, ∀ y ∈ b, σ x ≠ σ y) → injL σ (a ++ b) = true
  | [], _, _, h, _ => h
  | c :: a, b, h, k, hh => by
    simp only [List.cons_append, injL, Bool.and_eq_true] at h ⊢
    exact ⟨notin_app h.1 (notin_iff fun d hd => hh c (by simp) d hd), injL_app h.2 k fun x hx => hh x (List.mem_cons_of_mem _ hx)⟩
theorem injL_one {σ : Nat → Nat} {a : Nat} : injL σ [a] = true := by simp [injL, notin]
theorem injL_fam0 {σ : Nat → Nat} : ∀ {n : Nat}, (∀ i j, i < n → j < n → i ≠ j → σ (B + i) ≠ σ (B + j)) → injL σ ((fam B f t n).map (·.1)) = true
  | 0, _ => rfl
  | n + 1, h => by
    rw [fam_succ, List.map_append]
    refine injL_app (injL_fam0 fun i j hi hj => h i j (by omega) (by omega)) injL_one fun x hx y hy => ?_
    obtain ⟨h1, h2⟩ := fam_keys.1 hx
    simp at hy; subst hy
    have := h (x - B) n (by omega) (by omega) (by omega)
    rwa [show B + (x - B) = x by omega] at this
theorem injFam {L : AH} (h1 : injL id (L.map (·.1)) = true) (h2 : offK B L = true) (hn : n ≤ 10) : injL id ((L ++ fam B f t n).map (·.1)) = true := by
  rw [List.map_append]
  refine injL_app h1 (injL_fam0 fun i j _ _ h => by simp only [id]; omega) fun x hx y hy => ?_
  obtain ⟨h3, h4⟩ := fam_keys.1 hy
  obtain ⟨p, hp, rfl⟩ := List.mem_map.1 hx
  have := offK_of (i := y - B) (by omega) h2 p hp
  simp only [id]; omega
def famC (B Z n : Nat) : List AV := (List.range n).map fun i => .slice (B + i) 0 Z Z
theorem famC_succ {Z : Nat} : famC B Z (n + 1) = famC B Z n ++ [.slice (B + n) 0 Z Z] := by simp [famC, List.range_succ]
theorem famC_len {Z : Nat} : (famC B Z n).length = n := by simp [famC]
theorem famC_get {Z i : Nat} (h : i < n) : (famC B Z n)[0 + i * 1]? = some (.slice (B + i) 0 Z Z) := by simp [famC, h]
theorem famC_ren {B' Z : Nat} {σ : Nat → Nat} : ∀ {n : Nat}, (∀ i, i < n → σ (B + i) = B' + i) → renL σ (famC B Z n) = famC B' Z n
  | 0, _ => rfl
  | n + 1, h => by
    have app : ∀ (l l' : List AV), renL σ (l ++ l') = renL σ l ++ renL σ l' := fun l l' => by
      induction l with
      | nil => rfl
      | cons v l ih => simp only [List.cons_append, renL, ih]
    rw [famC_succ, famC_succ, app, famC_ren fun i hi => h i (by omega)]
    simp only [renL, AV.ren, h n (by omega)]
theorem famC_belb {m Z : Nat} : ∀ {n : Nat}, B + n ≤ m → belbL m (famC B Z n) = true
  | 0, _ => rfl
  | n + 1, h => by
    have app : ∀ (l l' : List AV), belbL m (l ++ l') = (belbL m l && belbL m l') := fun l l' => by
      induction l with
      | nil => rfl
      | cons v l ih => simp only [List.cons_append, belbL, ih, Bool.and_assoc]
    rw [famC_succ, app, famC_belb (by omega)]
    simp only [belbL, AV.belb, Bool.true_and, Bool.and_true]
    rw [Nat.blt_eq]; omega
theorem rOF {σ : Nat → Nat} {B' m b Z k : Nat} {H : AH} (h : gt H (σ b) = outB (famC B' Z k) t k) (hσ : ∀ i, i < k → σ (B + i) = B' + i) (hb : b.blt m = true) (hB : B + k ≤ m) : rowTo σ m b (outB (famC B Z k) t k) H := by
  cases k with
  | zero => intro _ e; cases e
  | succ k =>
    intro q e
    cases e
    exact ⟨by rw [h]; show some (ABlk.cells _ t) = some ((ABlk.cells (famC B Z (k + 1)) t).ren σ); simp only [ABlk.ren, famC_ren hσ], ltOf hb, by simp only [ABlk.belb]; exact famC_belb hB⟩
theorem rOS {σ : Nat → Nat} {c m b Z k : Nat} {H : AH} (h : gt H (σ b) = some (.cells (famC B Z k ++ [.slice c 0 Z Z]) t)) (hσ : ∀ i, i < k → σ (B + i) = B + i) (hc : σ (B + k) = c) (hb : b.blt m = true) (hB : B + (k + 1) ≤ m) : rowTo σ m b (outB (famC B Z (k + 1)) t (k + 1)) H := fun q e => by
  cases e
  have app : ∀ (l l' : List AV), renL σ (l ++ l') = renL σ l ++ renL σ l' := fun l l' => by
    induction l with
    | nil => rfl
    | cons v l ih => simp only [List.cons_append, renL, ih]
  refine ⟨?_, ltOf hb, by simp only [ABlk.belb]; exact famC_belb hB⟩
  rw [h, famC_succ]
  show some (ABlk.cells _ t) = some ((ABlk.cells (famC B Z k ++ [.slice (B + k) 0 Z Z]) t).ren σ)
  simp only [ABlk.ren, app, famC_ren hσ, renL, AV.ren, hc]
theorem rMF {σ' : Nat → Nat} {B' m b Z k : Nat} {H : AH} (h : gt H b = (outB (famC B Z k) t k).map (ABlk.ren σ')) (hσ : ∀ i, i < 10 → σ' (B + i) = B' + i) (hk : k ≤ 10) (hb : b.blt m = true) (hB : B' + k ≤ m) : rowTo id m b (outB (famC B' Z k) t k) H := by
  refine rOF (B' := B') ?_ (fun i hi => J) hb hB
  rw [id, h]
  cases k with
  | zero => rfl
  | succ k =>
    show some ((ABlk.cells (famC B Z (k + 1)) t).ren σ') = some (.cells (famC B' Z (k + 1)) t)
    simp only [ABlk.ren, famC_ren fun i (hi : i < k + 1) => hσ i (by omega)]
theorem fam_ren {σ' : Nat → Nat} {B' : Nat} (hd : ∀ i, dataL (f i)) : ∀ {n : Nat}, (∀ i, i < n → σ' (B + i) = B' + i) → renH σ' (fam B f t n) = fam B' f t n
  | 0, _ => rfl
  | n + 1, h => by
    have app : ∀ (l l' : AH), renH σ' (l ++ l') = renH σ' l ++ renH σ' l' := fun l l' => by
      induction l with
      | nil => rfl
      | cons v l ih => obtain ⟨a, b⟩ := v; simp only [List.cons_append, renH, ih]
    rw [fam_succ, fam_succ, app, fam_ren hd fun i hi => h i (by omega)]
    simp only [renH, h n (by omega), Option.map_some, ABlk.ren, renL_data _ (hd n)]
theorem famCall {σ' : Nat → Nat} {B' m : Nat} {X Y H : AH} (hT : Tl B' ((renH σ' (fam B f t n) ++ X) ++ Y) H) (hσ : ∀ i, i < 10 → σ' (B + i) = B' + i) (hn : n ≤ 10) (hB : B' + 10 ≤ m) (hd : ∀ i, dataL (f i)) : toH id m (fam B' f t n) H :=
  famTo hd (by omega) fun i hi => by
    rw [id, hT.gt (by omega), fam_ren hd fun i hi => hσ i (by omega)]
    exact gt_appS _ (gt_appS _ (fam_get hi))
def sgG (k c : Nat) (l : List Nat) (x : Nat) : Nat := bif x.beq (k + 10) then c else mapN l x
theorem mapN_out {l : List Nat} {m : Nat} (h : l.length ≤ m) : mapN l m = m := by rw [mapN, nth_eq, List.getElem?_eq_none h]; rfl
theorem sgG_in {k c i : Nat} {l : List Nat} (hl : l.length ≤ 10) (h : i ≠ k) : sgG k c l (10 + i) = 10 + i := by
  unfold sgG
  have : (10 + i).beq (k + 10) = false := by
    cases e : (10 + i).beq (k + 10) with
    | false => rfl
    | true => have := Nat.eq_of_beq_eq_true e; omega
  rw [this, cond_false, mapN_out (by omega)]
theorem sgG_new {k c : Nat} {l : List Nat} : sgG k c l (10 + k) = c := by
  unfold sgG
  rw [show 10 + k = k + 10 by omega, show (k + 10).beq (k + 10) = true by simp]; rfl
theorem injGrow {k c c1 : Nat} {g : Nat → List AV} (hk : k < 10) (hc : 20 ≤ c) (hc1 : 20 ≤ c1) (hne : c ≠ c1) {x y : Option ABlk} : injL (sgG k c [0, c1]) ((([(0, x), (1, y)] : AH) ++ fam 10 g t (k + 1)).map (·.1)) = true := by
  have h0 : sgG k c [0, c1] 0 = 0 := rfl
  have h1 : sgG k c [0, c1] 1 = c1 := rfl
  have hf : ∀ i, i < k + 1 → sgG k c [0, c1] (10 + i) = if i = k then c else 10 + i := fun i hi => by
    split
    · rename_i e; subst e; exact sgG_new
    · rename_i e; exact sgG_in (by simp) e
  rw [List.map_append]
  refine injL_app ?_ (injL_fam0 fun i j hi hj h => ?_) fun x hx y hy => ?_
  · simp only [List.map_cons, List.map_nil, injL, notin, h0, h1, Bool.and_true, Bool.not_eq_true']
    cases e : (0 : Nat).beq c1 with
    | false => rfl
    | true => have := Nat.eq_of_beq_eq_true e; omega
  · rw [hf i hi, hf j hj]; split <;> split <;> omega
  · obtain ⟨h3, h4⟩ := fam_keys.1 hy
    have h5 := hf (y - 10) (by omega)
    rw [show 10 + (y - 10) = y by omega] at h5
    have hx' : x = 0 ∨ x = 1 := by simpa using hx
    rw [h5]
    rcases hx' with rfl | rfl
    · rw [h0]; split <;> omega
    · rw [h1]; split <;> omega
theorem upsFam {c nx nx' b : Nat} {Hr : AH} {q : ABlk} {x : Option ABlk} (hc : c = 2) (h : gt Hr b = some q) : upsOk c Hr nx nx' [(b, x)] = true := by
  subst hc; simp [upsOk, h]
end
end Go.AE
end

section
namespace Go.AE
open Go.RowKit
def IterPK (P : Program) (f : FuncId) (fi ca xs : List AV) (K : AH → Prop) : Prop :=
  ∀ (n m : Nat) (Hs : Nat → AH) (He : AH) (j : Code) (Tr : AT) (ntr : Nat) (ps : Array Tmp) (assign body : Code), Rnds P xs n m Hs He j Tr ntr ps assign body → (∀ i, i ≤ m → K (Hs i)) →
    MutP P f (fi ++ [.yld (n + 1)] ++ ca) (lpR n Tr ntr ps assign body (Hs 0)) (n + 2) (.tup [])
      (if m < xs.length then lpD n j Tr ntr ps assign body He else lpR n Tr ntr ps assign body (Hs m)) (n + 2)
theorem srcLp {n b : Nat} {Tr : AT} {ntr : Nat} {ps : Array Tmp} {assign body : Code} {Hs : AH} {cs : List AV} {t : TypeId} {o : Nat} (hb : b < n) (h : gt Hs b = some (.cells cs t)) : src (lpR n Tr ntr ps assign body Hs) (.ptr b o) = some (cs, o) := by
  have : gt (lpR n Tr ntr ps assign body Hs) b = some (.cells cs t) := by unfold lpR; rw [gt_cons, if_neg (by omega)]; exact h
  simp only [src, this]
theorem bltL {b n : Nat} (h : b < n) : (b.blt (n + 2)) = true := by rw [Nat.blt_eq]; omega
section
variable {C : Ctx} {T T' : AT} {H : AH} {nx n : Nat} {c : Code} {Q : Exit → St → Prop}
theorem W_rangeXK (h : c.tag = 7) (hro : C.round = none) {f : FuncId} {fi ca xs : List AV} [hf : FnOk C.P f] {K : AH → Prop} (hI : IterPK C.P f fi ca xs K) (m : Nat) (Hs : Nat → AH) (He : AH) (j : Code)
    (hT : toT id n T' T) (hH : Sees n (Hs 0) H) (hk : C.k0.ble n = true) (hg : ev T' c.c = some (.fn f fi ca)) (hbf : (belbL n fi && belbL n ca) = true) (hsz : 1 = c.ps.toList.length) (hps : c.ps.toList.all (·.blt C.nt) = true)
    (hm : m ≤ xs.length) (hK : ∀ i, i ≤ m → K (Hs i)) (hB : ∀ i, i ≤ m → ∀ b q, gt (Hs i) b = some q → b < n ∧ q.belb n = true) (hBe : ∀ b q, gt He b = some q → b < n ∧ q.belb n = true)
    (hr : ∀ i x, i < m → xs[i]? = some x → ∀ (C' : Ctx), C'.P = C.P → ∀ N, (∀ H2 nx2, Sees n (Hs (i + 1)) H2 → N true none H2 nx2) →
      Round C' (n + 1) none T' C.nt c.ps c.l c.r n N (zipT c.ps.toList [x] T') ((n + 1, some (.loop .ready none T' C.nt c.ps c.l c.r n)) :: Hs i) (n + 2))
    (hs : ∀ x, xs[m]? = some x → ∀ (C' : Ctx), C'.P = C.P → ∀ N, (∀ H2 nx2, Sees n He H2 → N false (some j) H2 nx2) →
      Round C' (n + 1) none T' C.nt c.ps c.l c.r n N (zipT c.ps.toList [x] T') ((n + 1, some (.loop .ready none T' C.nt c.ps c.l c.r n)) :: Hs m) (n + 2))
    (kn : m = xs.length → Q .normal ⟨T', Hs m, n, []⟩) (kj : m < xs.length → WpA C j Q ⟨T', He, n, []⟩) : WpA C c Q ⟨T, H, nx, []⟩ := by
  suffices hs : WpA C c (fun e s => Q e s ∨ (e = .normal ∧ ∃ sj, Gh C s sj ∧ Q .normal sj)) ⟨T, H, nx, []⟩ by
    intro ρ Φ a w hc
    refine wpIn_mono (hs ρ Φ a w hc) ?_
    rintro e a' w' ⟨s', ρ', Φ', hq, hc'⟩
    rcases hq with hq | ⟨rfl, sj, hg, hq⟩
    · exact ⟨s', ρ', Φ', hq, hc'⟩
    · obtain ⟨ρ2, Φ2, h2⟩ := hg ρ' Φ' a' w' hc'; exact ⟨sj, ρ2, Φ2, hq, h2⟩
  refine W_gh (Gh_sees hT hH hk) ?_
  have hbT := belbT_of_toT hT
  have hbl : ∀ (st : LoopState) (p : Option Code), (ABlk.loop st p T' C.nt c.ps c.l c.r n).belb (n + 2) = true := fun st p => by
    simp only [ABlk.belb, Bool.and_eq_true]; exact ⟨by rw [Nat.blt_eq]; omega, belbT_up (by omega) _ hbT⟩
  have hP := hI n m Hs He j T' C.nt c.ps c.l c.r ⟨hm, hbT, hB, hBe, hsz, hps, hr, hs⟩ hK
  have hbf' : belbL n fi = true ∧ belbL n ca = true := by simpa only [Bool.and_eq_true] using hbf
  have happ : ∀ (k : Nat) (a b : List AV), belbL k a = true → belbL k b = true → belbL k (a ++ b) = true := fun k a => by
    induction a with
    | nil => intro b _ h; exact h
    | cons v a ih => intro b h1 h2; simp only [belbL, List.cons_append, Bool.and_eq_true] at h1 ⊢; exact ⟨h1.1, ih b h1.2 h2⟩
  have hba : belbL (n + 2) (fi ++ [.yld (n + 1)] ++ ca) = true := happ _ _ _ (happ _ _ _ (belbL_up (by omega) _ hbf'.1) (by simp only [belbL, AV.belb, Bool.and_true]; rw [Nat.blt_eq]; omega)) (belbL_up (by omega) _ hbf'.2)
  have hX : ∀ b q, gt ((n + 1, some (ABlk.loop .ready none T' C.nt c.ps c.l c.r n)) :: Hs 0) b = some q → gt ((n + 1, some (.loop .ready none T' C.nt c.ps c.l c.r n)) :: Hs 0) (id b) = some (q.ren id) ∧ b < n + 2 ∧ q.belb (n + 2) = true := fun b q e => by
    rw [ren_id_B]
    refine ⟨e, ?_⟩
    rw [gt_cons] at e
    split at e
    · rename_i e1; cases e; exact ⟨by omega, hbl _ _⟩
    · obtain ⟨h1, h2⟩ := hB 0 (Nat.zero_le _) b q e; exact ⟨by omega, belbB_up (by omega) _ h2⟩
  have hsig : sigM id (n + 2) (n + 1 + 1) = id := by
    funext b
    by_cases hb : b < n + 2
    · rw [sigM_lt hb]
    · rw [sigM_ge (by omega)]; show _ = b; omega
  have hren : ∀ (L : AH), renH id L = L := fun L => by
    induction L with
    | nil => rfl
    | cons a L ih => obtain ⟨b, k⟩ := a; simp only [renH, ih, id]; cases k with | none => rfl | some k => simp only [Option.map_some, ren_id_B]
  by_cases hlt : m < xs.length
  · rw [if_pos hlt] at hP
    refine W_range h hro (fi := fi) (ca := ca) (f := f) hg id hP ?_ hba hX (fun _ _ _ _ e => e) (fun b hb => hb) (st := .done) (p := some j) (Tl := T') (ntl := C.nt) (dl := n) (psl := c.ps) (al := c.l) (bl := c.r) ?_ (by simp) ?_
    · rw [ren_id_L]
    · rw [hsig, hren, List.append_assoc]; exact gt_lp
    · rw [hsig, hren]
      refine W_gh (Gh_seesG (n := n) (T' := T') (H' := He) (fun i v e => ⟨v, e, by rw [ren_id_v]; exact le_refl _, belbT_lk hbT i v e⟩) ?_ hk) ((kj hlt).mono fun _ _ h => .inl h)
      · intro b q e
        obtain ⟨h1, h2⟩ := hBe b q e
        refine ⟨?_, h1, h2⟩
        rw [gt_cons, if_neg (by omega), List.append_assoc, List.cons_append, gt_cons, if_neg (by omega)]
        exact gt_appS _ e
  · rw [if_neg hlt] at hP
    refine W_range h hro (fi := fi) (ca := ca) (f := f) hg id hP ?_ hba hX (fun _ _ _ _ e => e) (fun b hb => hb) (st := .ready) (p := none) (Tl := T') (ntl := C.nt) (dl := n) (psl := c.ps) (al := c.l) (bl := c.r) ?_ (by simp) ?_
    · rw [ren_id_L]
    · rw [hsig, hren, List.append_assoc]; exact gt_lp
    · rw [hsig, hren]
      refine .inr ⟨J, _, ?_, kn (by omega)⟩
      refine Gh_seesG (n := n) (T' := T') (H' := Hs m) (fun i v e => ⟨v, e, by rw [ren_id_v]; exact le_refl _, belbT_lk hbT i v e⟩) ?_ hk
      intro b q e
      obtain ⟨h1, h2⟩ := hB m (Nat.le_refl _) b q e
      refine ⟨?_, h1, h2⟩
      rw [gt_cons, if_neg (by omega), List.append_assoc, List.cons_append, gt_cons, if_neg (by omega)]
      exact gt_appS _ e
theorem W_rangeIK (h : c.tag = 7) (hro : C.round = none) {f : FuncId} {fi ca xs : List AV} [hf : FnOk C.P f] {K : AH → Prop} (hI : IterPK C.P f fi ca xs K) (Hs : Nat → AH)
    (hT : toT id n T' T) (hH : toH id n (Hs 0) H) (hk : C.k0.ble n = true) (hg : ev T' c.c = some (.fn f fi ca)) (hbf : (belbL n fi && belbL n ca) = true) (hsz : 1 = c.ps.toList.length) (hps : c.ps.toList.all (·.blt C.nt) = true)
    (hK : ∀ i, K (Hs i)) (hB : ∀ i, toH id n (Hs i) (Hs i))
    (hr : ∀ i x, xs[i]? = some x → ∀ (C' : Ctx), C'.P = C.P → ∀ N, (∀ H2 nx2, toH id n (Hs (i + 1)) H2 → N true none H2 nx2) →
      Round C' (n + 1) none T' C.nt c.ps c.l c.r n N (zipT c.ps.toList [x] T') ((n + 1, some (.loop .ready none T' C.nt c.ps c.l c.r n)) :: Hs i) (n + 2))
    (kn : Q .normal ⟨T', Hs xs.length, n, []⟩) : WpA C c Q ⟨T, H, nx, []⟩ :=
  W_rangeXK h hro hI xs.length Hs [] .ret hT (.of_to hH) hk hg hbf hsz hps (Nat.le_refl _) (fun i _ => hK i) (fun i _ b q e => (toH_gt (hB i) b q e).2) (fun b q e => by cases e)
    (fun i x _ hx C' hC N hN => hr i x hx C' hC N fun H2 nx2 h2 => hN H2 nx2 (.of_to h2)) (fun x hx => by simp at hx) (fun _ => kn) (fun h => absurd h (Nat.lt_irrefl _))
end
end Go.AE
end

section
namespace Go.AE
open Go.RowKit
theorem beqF {a b : Nat} (h : a ≠ b) : a.beq b = false := by
  cases e : a.beq b with
  | false => rfl
  | true => exact absurd (Nat.eq_of_beq_eq_true e) h
def okL (b : Nat) (cs : List AV) : AH → Prop
  | [] => True
  | (c, k) :: l => (c ≠ b ∧ ∀ q, k = some q → q.fr b cs = q) ∧ okL b cs l
theorem okL_gt {b : Nat} {cs : List AV} : ∀ {L : AH}, okL b cs L → ∀ c q, gt L c = some q → c ≠ b ∧ q.fr b cs = q
  | [], _, _, _, h => by cases h
  | (d, k) :: L, ⟨h1, h2⟩, c, q, h => by
    rw [gt_cons] at h
    split at h
    · rename_i e; subst e; exact ⟨h1.1, h1.2 q h⟩
    · exact okL_gt h2 c q h
theorem gt_app2 {X : AH} {b : Nat} {q : ABlk} : ∀ {L : AH}, gt (L ++ X) b = some q → gt L b = some q ∨ gt X b = some q
  | [], h => .inr h
  | (c, k) :: L, h => by
    rw [List.cons_append, gt_cons] at h
    rw [gt_cons]
    split at h
    · rename_i e; rw [if_pos e]; exact .inl h
    · rename_i e; rw [if_neg e]; exact gt_app2 h
section
variable {C : Ctx} {T : AT} {L : AH} {nx a B Z n : Nat} {f : Nat → List AV} {t t2 : TypeId} {df : List Nat}
def famM (B Z n : Nat) (f : Nat → List AV) (k : Nat) : List AV := (List.range n).map fun i => if i < k then .slice (B + i) 0 Z Z else .ros (f i) Z (some Z)
theorem frL_map {α : Type} {b : Nat} {cs : List AV} {g g' : α → AV} : ∀ {l : List α}, (∀ x ∈ l, (g x).fr b cs = g' x) → frL b cs (l.map g) = l.map g'
  | [], _ => rfl
  | x :: l, h => by simp only [List.map_cons, frL, h x (by simp), frL_map fun y hy => h y (List.mem_cons_of_mem _ hy)]
theorem famM_fr {k : Nat} : frL (B + k) (f k) (famM B Z n f (k + 1)) = famM B Z n f k := frL_map fun i _ => by
  by_cases h : i < k
  · rw [if_pos (by omega), if_pos h]
    simp only [AV.fr, beqF (show B + i ≠ B + k by omega), Bool.false_and, Bool.false_eq_true, if_false]
  · rw [if_neg h]
    by_cases e : i = k
    · subst e
      rw [if_pos (by omega)]
      have h1 : (B + i).beq (B + i) = true := by simp
      have h2 : Z.ble Z = true := by rw [Nat.ble_eq]; exact Nat.le_refl _
      simp only [AV.fr, h1, h2, Bool.and_self, if_true, List.drop_zero]
    · rw [if_neg (by omega)]; rfl
theorem Gh_frFam1 {k : Nat} (hk : k < 10) (hd : ∀ i, dataL (f i)) (ha : (a.blt B || (B + 9).blt a) = true) (ho : offK B L = true) (hT : frT (B + k) (f k) T = T) (hL : okL (B + k) (f k) L) :
    Gh C ⟨T, (a, outB (famM B Z n f (k + 1)) t2 n) :: (L ++ fam B f t (k + 1)), nx, df⟩ ⟨T, (a, outB (famM B Z n f k) t2 n) :: (L ++ fam B f t k), nx, df⟩ := by
  have hin : ∀ (X : AH) i, i < 10 → gt (L ++ X) (B + i) = gt X (B + i) := fun X i hi => gt_appL _ _ _ fun c hc => by
    obtain ⟨p, hp, rfl⟩ := List.mem_map.1 hc
    exact offK_of hi ho p hp
  have hg : gt ((a, outB (famM B Z n f (k + 1)) t2 n) :: (L ++ fam B f t (k + 1))) (B + k) = some (.cells (f k) t) := by
    rw [gt_cons, if_neg (offC ha hk), hin _ _ hk]; exact fam_get (by omega)
  refine Gh_frz (Frz.fr (B + k) hg (hd k)) (fun i v h => by rw [hT]; exact h) fun c q h => ?_
  rw [gt_cons] at h
  by_cases e : a = c
  · subst e
    rw [if_pos rfl] at h
    rw [gt_cons, if_neg (fun e => offC ha hk e.symm), frH_gt, gt_cons, if_pos rfl]
    cases n with
    | zero => cases h
    | succ n =>
      cases h
      show some (ABlk.fr _ _ (.cells _ t2)) = _
      simp only [ABlk.fr, famM_fr]
  · rw [if_neg e] at h
    by_cases hc : B ≤ c ∧ c < B + 10
    · obtain ⟨i, rfl⟩ : ∃ i, c = B + i := ⟨c - B, by omega⟩
      rw [hin _ _ (by omega)] at h
      have h3 := fam_keys.1 (gt_key (show gt (fam B f t k) (B + i) ≠ none by rw [h]; simp))
      rw [fam_get (by omega)] at h
      cases h
      rw [gt_cons, if_neg (by omega), frH_gt, gt_cons, if_neg e, hin _ _ (by omega), fam_get (by omega)]
      show some (ABlk.fr _ _ (.cells _ t)) = _
      simp only [ABlk.fr, frL_nob _ (nobL_data _ (hd i))]
    · have h5 : ∀ m, gt (fam B f t m) c = none ∨ 10 < m := fun m => by
        by_cases hm : m ≤ 10
        · exact .inl (fam_out (by omega))
        · exact .inr (by omega)
      have h6 : gt L c = some q := by
        cases h7 : gt L c with
        | some x => rw [gt_appS _ h7] at h; exact h
        | none =>
          rcases gt_app2 (L := L) h with h8 | h8
          · rw [h7] at h8; cases h8
          · rcases h5 k with h9 | h9
            · rw [h9] at h8; cases h8
            · omega
      obtain ⟨h1, h2⟩ := okL_gt hL c q h6
      rw [gt_cons, if_neg (fun e => h1 e.symm), frH_gt, gt_cons, if_neg e, gt_appS _ h6]
      show some (ABlk.fr _ _ q) = _; rw [h2]
theorem Gh_frFam (hn : n ≤ 10) (hd : ∀ i, dataL (f i)) (ha : (a.blt B || (B + 9).blt a) = true) (ho : offK B L = true) (hT : ∀ i, i < 10 → ∀ cs, frT (B + i) cs T = T) (hL : ∀ i, i < 10 → ∀ cs, okL (B + i) cs L) : ∀ k, k ≤ n →
    Gh C ⟨T, (a, outB (famM B Z n f k) t2 n) :: (L ++ fam B f t k), nx, df⟩ ⟨T, (a, outB (famM B Z n f 0) t2 n) :: (L ++ fam B f t 0), nx, df⟩
  | 0, _ => Gh.refl
  | k + 1, h => (Gh_frFam1 (by omega) hd ha ho (hT k (by omega) _) (hL k (by omega) _)).trans (Gh_frFam hn hd ha ho hT hL k (by omega))
theorem famM_all : famM B Z n f n = famC B Z n := List.map_congr_left fun i hi => if_pos (List.mem_range.1 hi)
theorem famM_0 : famM B Z n f 0 = (List.range n).map fun i => .ros (f i) Z (some Z) := List.map_congr_left fun i hi => if_neg (Nat.not_lt_zero _)
theorem W_frFam {c : Code} {Q : Exit → St → Prop} (hn : n ≤ 10) (hd : ∀ i, dataL (f i)) (ha : (a.blt B || (B + 9).blt a) = true) (ho : offK B L = true) (hT : ∀ i, i < 10 → ∀ cs, frT (B + i) cs T = T) (hL : ∀ i, i < 10 → ∀ cs, okL (B + i) cs L)
    (k : WpA C c Q ⟨T, (a, outB ((List.range n).map fun i => .ros (f i) Z (some Z)) t2 n) :: L, nx, df⟩) : WpA C c Q ⟨T, (a, outB (famC B Z n) t2 n) :: (L ++ fam B f t n), nx, df⟩ := by
  refine W_gh ?_ k
  have := Gh_frFam (C := C) (T := T) (nx := nx) (df := df) (Z := Z) (t := t) (t2 := t2) hn hd ha ho hT hL n (Nat.le_refl _)
  rw [famM_all, famM_0, show L ++ fam B f t 0 = L from List.append_nil L] at this
  exact this
end
inductive Tk (b : Nat) (F : AH) : AH → Prop where
  | nil : Tk b F F
  | cons {c : Nat} {k : Option ABlk} {H : AH} (h : c ≠ b) (t : Tk b F H) : Tk b F ((c, k) :: H)
theorem Tk.gt {b : Nat} {F H : AH} (h : Tk b F H) : gt H b = gt F b := by
  induction h with
  | nil => rfl
  | cons h _ ih => rw [gt_cons, if_neg h, ih]
theorem gtCall {b B B' n : Nat} {σ' : Nat → Nat} {f : Nat → List AV} {t : TypeId} {X H0 H : AH} {q : ABlk} (hT : Tk b ((renH σ' (fam B f t n) ++ X) ++ H0) H) (hσ : ∀ i, i < 10 → σ' (B + i) = B' + i) (hd : ∀ i, dataL (f i)) (hn : n ≤ 10) (hb : b < B' ∨ B' + 10 ≤ b) (h0 : gt (X ++ H0) b = some q) : gt H b = some q := by
  rw [hT.gt, fam_ren hd fun i hi => hσ i (by omega), List.append_assoc, gt_appL]
  · exact h0
  · intro c hc e
    have := fam_keys.1 hc
    omega
theorem gtSkip {b c : Nat} {k : Option ABlk} {H : AH} {q : ABlk} (h : c ≠ b) (h2 : gt H b = some q) : gt ((c, k) :: H) b = some q := by rw [gt_cons, if_neg h]; exact h2
theorem famKeepEq {B n m : Nat} {f g : Nat → List AV} {t : TypeId} {H : AH} (hT : Tl B (fam B f t n) H) (hn : n ≤ 10) (hB : B + 10 ≤ m) (hd : ∀ i, dataL (f i)) (he : ∀ i, i < n → g i = f i) (hd2 : ∀ i, dataL (g i)) : toH id m (fam B g t n) H :=
  famTo hd2 (by omega) fun i hi => by rw [id, hT.gt (by omega), fam_get hi, he i hi]
end Go.AE
end

section
namespace Go.AE
open Go.RowKit Go.ChangeShapes
abbrev Old (W : World) : Fz := fun r => r < W.heap.size
def Reads (P : Program) (t : TypeId) (A : List AV → Prop) : Prop :=
  ∀ (H : Type) (enc : TypeId × Value → H) (W : World) (n : Nat) (cs : List Value) (x : DataW H × List MemPlace),
    DataW.trod enc P W 0 (fun _ => true) true n t cs = some x → ∃ vs, A vs ∧ dataL vs ∧ ConL Env.nil (Old W) W vs cs
theorem Reads.mono {P : Program} {t : TypeId} {A B : List AV → Prop} (h : Reads P t A) (k : ∀ vs, A vs → B vs) : Reads P t B := fun H enc W n cs x e => by
  obtain ⟨vs, h1, h2, h3⟩ := h H enc W n cs x e; exact ⟨vs, k _ h1, h2, h3⟩
theorem Reads.int {P : Program} {t : TypeId} {k : IntKind} (ht : P.underlying t = some (.int k)) : Reads P t fun vs => ∃ n, (k.min ≤ n ∧ n ≤ k.max) ∧ vs = [.int k n] := fun H enc W n cs x e => by
  obtain ⟨m, rfl, _, hw⟩ := DataW.trod_int ht e
  exact ⟨_, ⟨m, by simpa [Lit.wf] using hw, rfl⟩, rfl, conL_cons (by simp [Con]) conL_nil⟩
theorem Reads.bool {P : Program} {t : TypeId} (ht : P.underlying t = some .bool) : Reads P t fun vs => ∃ b, vs = [.bool b] := fun H enc W n cs x e => by
  obtain ⟨b, rfl, _⟩ := DataW.trod_bool ht e
  exact ⟨_, ⟨b, rfl⟩, rfl, conL_cons (by simp [Con]) conL_nil⟩
theorem addr_of_cell {W : World} {a : Addr} {v : Value} (h : W.cell? a = some v) : a = ⟨a.block, a.off, none⟩ ∧ a.block < W.heap.size := by
  unfold World.cell? at h
  split at h
  · rename_i c _ _ e
    refine ⟨?_, (Array.getElem?_eq_some_iff.1 e).1⟩
    split at h
    · cases h
    · rename_i hs
      cases a with
      | mk b o s => cases s with
        | none => rfl
        | some s => simp at hs
  · cases h
theorem Reads.slice {P : Program} {t e z : Nat} {A : List AV → Prop} (ht : P.underlying t = some (.slice e)) (hz : P.cellsOf e = z) (h0 : 0 < z) (hA : Reads P e A) :
    Reads P t fun vs => ∃ ls : List (List AV), (∀ l ∈ ls, A l) ∧ ls.length ≤ maxLen ∧ vs = [.ros ls.flatten ls.length none] := fun H enc W n cs x e' => by
  rcases DataW.trod_slice ht e' with ⟨rfl, _⟩ | ⟨a, len, cap, elems, rest, m, _, rfl, _, _, hlc, hcm, hl, hel, hre, _⟩
  · exact ⟨_, ⟨[], by simp, by simp, rfl⟩, rfl, conL_cons (by simp only [Con]; exact .inl ⟨rfl, ⟨none, rfl⟩, fun m hm => by cases hm⟩) conL_nil⟩
  subst hz
  have hone : ∀ i, i < cap → ∃ y cs', W.cells? 0 (a.add (i * P.cellsOf e)) (P.cellsOf e) = some cs' ∧ (i < len → DataW.trod enc P W 0 (fun _ => true) true m e cs' = some y) := by
    intro i hi
    by_cases h : i < len
    · have h1 := hel i h
      rw [List.getElem?_eq_getElem (by omega)] at h1
      obtain ⟨cs', h2, h3⟩ := Option.bind_eq_some_iff.1 h1
      exact ⟨_, cs', h2, fun _ => h3⟩
    · obtain ⟨h1, h2⟩ := hre rfl
      have h3 := h2 (i - len) (by omega)
      rw [List.getElem?_eq_getElem (by omega)] at h3
      obtain ⟨cs', h4, h5⟩ := Option.bind_eq_some_iff.1 h3
      rw [show len + (i - len) = i by omega] at h4
      exact ⟨_, cs', h4, fun _ => h5⟩
  by_cases hc : cap = 0
  · subst hc
    have : len = 0 := by omega
    subst this
    exact ⟨_, ⟨[], by simp, by simp, rfl⟩, rfl, conL_cons (by simp only [Con]; exact .inl ⟨rfl, ⟨_, rfl⟩, fun m hm => by cases hm⟩) conL_nil⟩
  have hsp : a = ⟨a.block, a.off, none⟩ ∧ a.block < W.heap.size := by
    obtain ⟨y, cs', h1, _⟩ := hone 0 (by omega)
    obtain ⟨_, h3, h4⟩ := World.cells?_some h1
    have h5 := h4 0 h0
    rw [List.getElem?_eq_getElem (by omega)] at h5
    simpa [Addr.add] using addr_of_cell h5
  obtain ⟨hsp, hlt⟩ := hsp
  have hadd : ∀ i j, (a.add i).add j = ⟨a.block, a.off + (i + j), none⟩ := by
    intro i j
    obtain ⟨b, o, s⟩ := a
    have : s = none := by simpa using hsp
    subst this
    simp only [Addr.add]
    split <;> split <;> simp_all [Nat.add_assoc]
  have key : ∀ k, k ≤ len → ∃ (ls : List (List AV)) (xs : List Value), ls.length = k ∧ (∀ l ∈ ls, A l) ∧ dataL ls.flatten ∧ ConL Env.nil (Old W) W ls.flatten xs ∧ xs.length = k * P.cellsOf e ∧ At W a.block a.off xs := by
    intro k
    induction k with
    | zero => exact fun _ => ⟨[], [], rfl, by simp, rfl, conL_nil, by simp, fun i v hi => by simp at hi⟩
    | succ k ih =>
      intro hk
      obtain ⟨ls, xs, h1, h2, h3, h4, h5, h6⟩ := ih (by omega)
      obtain ⟨y, cs', g1, g2⟩ := hone k (by omega)
      obtain ⟨vs, g3, g4, g5⟩ := hA _ enc W m cs' y (g2 (by omega))
      obtain ⟨_, g6, g7⟩ := World.cells?_some g1
      refine ⟨ls ++ [vs], xs ++ cs', by simp [h1], ?_, ?_, ?_, by simp [h5, g6, Nat.add_mul], ?_⟩
      · intro l hl
        rcases List.mem_append.1 hl with hl | hl
        · exact h2 l hl
        · rw [List.mem_singleton.1 hl]; exact g3
      · simpa using dataL_append.2 ⟨h3, g4⟩
      · simpa using conL_append h4 g5
      · intro i v hi
        rw [List.getElem?_append] at hi
        split at hi
        · exact h6 i v hi
        · have hlt' : i - xs.length < cs'.length := (List.getElem?_eq_some_iff.1 hi).1
          have := g7 (i - xs.length) (by omega)
          rw [hadd] at this
          rw [show k * P.cellsOf e + (i - xs.length) = i by omega] at this
          rw [this, hi]
  obtain ⟨ls, xs, h1, h2, h3, h4, h5, h6⟩ := key len (Nat.le_refl _)
  refine ⟨_, ⟨ls, h2, by omega, rfl⟩, rfl, conL_cons ?_ conL_nil⟩
  simp only [Con]
  exact .inr ⟨a.block, a.off, xs, cap, hlt, by rw [h1, ← hsp], by omega, fun m hm => (by cases hm), h4, h6, h3⟩
def AllA : List (List AV → Prop) → List (List AV) → Prop
  | [], ls => ls = []
  | A :: As, ls => ∃ l ls', ls = l :: ls' ∧ A l ∧ AllA As ls'
def FieldsR (P : Program) (n : Nat) : Nat → List Field → List (List AV → Prop) → Prop
  | o, [], As => o = n ∧ As = []
  | _, _ :: _, [] => False
  | o, f :: fs, A :: As => f.offset = o ∧ Reads P f.type A ∧ FieldsR P n (o + P.cellsOf f.type) fs As
theorem fields_read {P : Program} {H : Type} {enc : TypeId × Value → H} {W : World} {m : Nat} {cs : List Value} : ∀ {fs : List Field} {As : List (List AV → Prop)} {o : Nat}, FieldsR P cs.length o fs As →
    (∀ f ∈ fs, ∃ y, DataW.trod enc P W 0 (fun _ => true) true m f.type ((cs.drop f.offset).take (P.cellsOf f.type)) = some y) →
      ∃ ls, AllA As ls ∧ dataL ls.flatten ∧ ConL Env.nil (Old W) W ls.flatten (cs.drop o)
  | [], As, o, h, _ => by
    obtain ⟨rfl, rfl⟩ := h
    exact ⟨[], rfl, rfl, by simpa using conL_nil⟩
  | f :: fs, [], o, h, _ => h.elim
  | f :: fs, A :: As, o, ⟨e1, hr, h⟩, k => by
    subst e1
    obtain ⟨y, hy⟩ := k f List.mem_cons_self
    obtain ⟨vs, h1, h2, h3⟩ := hr _ enc W m _ y hy
    obtain ⟨ls, g1, g2, g3⟩ := fields_read h fun f' hf => k f' (List.mem_cons_of_mem _ hf)
    refine ⟨vs :: ls, ⟨vs, ls, rfl, h1, g1⟩, by simpa using dataL_append.2 ⟨h2, g2⟩, ?_⟩
    have := conL_append h3 g3
    rw [← List.drop_drop, List.take_append_drop] at this
    simpa using this
theorem Reads.struct {P : Program} {t : TypeId} {fs : Array Field} {As : List (List AV → Prop)} (ht : P.underlying t = some (.struct fs)) (h : FieldsR P (P.cellsOf t) 0 fs.toList As) : Reads P t fun vs => ∃ ls, AllA As ls ∧ vs = ls.flatten := fun H enc W n cs x e => by
  obtain ⟨xs, m, _, _, hl, hn, hf⟩ := DataW.trod_struct ht e
  obtain ⟨ls, h1, h2, h3⟩ := fields_read (cs := cs) (hl ▸ h) fun f hf' => by
    obtain ⟨i, hi, e⟩ := List.mem_iff_getElem.1 hf'
    have := hf i f (by rw [← Array.getElem?_toList]; exact List.getElem?_eq_some_iff.2 ⟨hi, e⟩)
    rw [List.getElem?_eq_getElem (by rw [hn]; simpa using hi)] at this
    exact ⟨_, this⟩
  exact ⟨_, ⟨ls, h1, rfl⟩, h2, by simpa using h3⟩
theorem Reads.array {P : Program} {t e k z : Nat} {A : List AV → Prop} (ht : P.underlying t = some (.array k e)) (hz : P.cellsOf e = z) (hn : P.cellsOf t = k * z) (hA : Reads P e A) :
    Reads P t fun vs => ∃ ls : List (List AV), (∀ l ∈ ls, A l) ∧ ls.length = k ∧ vs = ls.flatten := fun H enc W n cs x h => by
  subst hz
  have key : cs.length = k * P.cellsOf e ∧ ∃ m, ∀ i, i < k → ∃ y, DataW.trod enc P W 0 (fun _ => true) true m e ((cs.drop (i * P.cellsOf e)).take (P.cellsOf e)) = some y := by
    cases n with
    | zero => simp [DataW.trod] at h
    | succ m =>
      unfold DataW.trod at h
      rw [ht] at h
      split at h <;> simp_all
      obtain ⟨_, xs, hp, _⟩ := h
      refine ⟨m, fun i hi => ?_⟩
      have := mapM_some_get hp i i (by simp [hi])
      rw [this]
      have hlen : xs.length = k := by have := mapM_some_length hp; simp only [List.length_range] at this; omega
      rw [List.getElem?_eq_getElem (by omega)]
      exact ⟨_, _, rfl⟩
  obtain ⟨hl, m, hm⟩ := key
  have go : ∀ j, j ≤ k → ∃ ls : List (List AV), ls.length = j ∧ (∀ l ∈ ls, A l) ∧ dataL ls.flatten ∧ ConL Env.nil (Old W) W ls.flatten (cs.take (j * P.cellsOf e)) := by
    intro j
    induction j with
    | zero => exact fun _ => ⟨[], rfl, by simp, rfl, by simpa using conL_nil⟩
    | succ j ih =>
      intro hj
      obtain ⟨ls, h1, h2, h3, h4⟩ := ih (by omega)
      obtain ⟨y, hy⟩ := hm j (by omega)
      obtain ⟨vs, g1, g2, g3⟩ := hA _ enc W m _ y hy
      refine ⟨ls ++ [vs], by simp [h1], ?_, by simpa using dataL_append.2 ⟨h3, g2⟩, ?_⟩
      · intro l hl'
        rcases List.mem_append.1 hl' with hl' | hl'
        · exact h2 l hl'
        · rw [List.mem_singleton.1 hl']; exact g1
      · have := conL_append h4 g3
        rw [Nat.add_mul, Nat.one_mul, List.take_add]
        simpa using this
  obtain ⟨ls, h1, h2, h3, h4⟩ := go k (Nat.le_refl _)
  rw [← hl, List.take_length] at h4
  exact ⟨_, ⟨ls, h2, h1, rfl⟩, h3, h4⟩
def ArgR (P : Program) (t : TypeId) (B : AV → Prop) : Prop :=
  ∀ (H : Type) (enc : TypeId × Value → H) (W : World) (base : Nat) (v : Value) (d : DataW H) (ps : List MemPlace), Value.okWide P W .any base t v → DataW.Trod enc P W 0 (fun _ => true) true t v d ps →
    ∃ a, B a ∧ a.data ∧ Con Env.nil (Old W) W a v
theorem ArgR.mono {P : Program} {t : TypeId} {A B : AV → Prop} (h : ArgR P t A) (k : ∀ v, A v → B v) : ArgR P t B := fun H enc W base v d ps h1 h2 => by
  obtain ⟨a, e1, e2⟩ := h _ enc W base v d ps h1 h2; exact ⟨a, k _ e1, e2⟩
theorem ArgR.int {P : Program} {t : TypeId} {k : IntKind} (ht : P.underlying t = some (.int k)) : ArgR P t fun a => ∃ n, (k.min ≤ n ∧ n ≤ k.max) ∧ a = .int k n := fun H enc W base v d ps ho ⟨m, h⟩ => by
  obtain ⟨vs, ⟨n, hn, rfl⟩, _, h3⟩ := Reads.int ht _ enc W m _ _ h
  obtain ⟨y, ys, e1, e2, e3⟩ := conL_inv h3
  simp only [Con] at e2; subst e2
  cases v <;> simp [Value.cells] at e1
  case int => obtain ⟨⟨rfl, rfl⟩, _⟩ := e1; exact ⟨_, ⟨_, hn, rfl⟩, rfl, by simp [Con]⟩
  case agg => simp [Value.okWide, ht, Cell.okWide, Cell.ok] at ho
theorem ArgR.bool {P : Program} {t : TypeId} (ht : P.underlying t = some .bool) : ArgR P t fun a => ∃ b, a = .bool b := fun H enc W base v d ps ho ⟨m, h⟩ => by
  obtain ⟨vs, ⟨n, rfl⟩, _, h3⟩ := Reads.bool ht _ enc W m _ _ h
  obtain ⟨y, ys, e1, e2, e3⟩ := conL_inv h3
  simp only [Con] at e2; subst e2
  cases v <;> simp [Value.cells] at e1
  case bool => exact ⟨.bool n, ⟨n, rfl⟩, rfl, by simp [Con, e1.1]⟩
  case agg => simp [Value.okWide, ht, Cell.okWide, Cell.ok] at ho
theorem ArgR.slice {P : Program} {t e : Nat} {B : AV → Prop} (ht : P.underlying t = some (.slice e)) (hr : Reads P t fun vs => ∃ a, B a ∧ vs = [a]) : ArgR P t B := fun H enc W base v d ps ho ⟨m, h⟩ => by
  obtain ⟨vs, ⟨a, hb, rfl⟩, h2, h3⟩ := hr _ enc W m _ _ h
  obtain ⟨y, ys, e1, e2, e3⟩ := conL_inv h3
  simp only [ConL] at e3; subst e3
  obtain ⟨a', len, cap, rfl⟩ := Go.WideShapes.okWide_slice ht ho
  simp [Value.cells] at e1
  subst e1
  exact ⟨a, hb, (dataL_cons.1 h2).1, e2⟩
theorem ArgR.struct {P : Program} {t : TypeId} {fs : Array Field} {A : List AV → Prop} (ht : P.underlying t = some (.struct fs)) (hr : Reads P t A) : ArgR P t fun a => ∃ vs, A vs ∧ a = .agg vs := fun H enc W base v d ps ho ⟨m, h⟩ => by
  obtain ⟨vs, hA, h2, h3⟩ := hr _ enc W m _ _ h
  obtain ⟨cs, rfl, _⟩ := Go.WideShapes.okWide_struct ht ho
  refine ⟨_, ⟨vs, hA, rfl⟩, by simpa [AV.data, AV.isd] using h2, ?_⟩
  simp only [Con]
  exact ⟨_, h3, by simp [Value.cells]⟩
theorem ArgR.array {P : Program} {t : TypeId} {k e : Nat} {A : List AV → Prop} (ht : P.underlying t = some (.array k e)) (hr : Reads P t A) : ArgR P t fun a => ∃ vs, A vs ∧ a = .agg vs := fun H enc W base v d ps ho ⟨m, h⟩ => by
  obtain ⟨vs, hA, h2, h3⟩ := hr _ enc W m _ _ h
  have : ∃ cs, v = .agg cs := by
    simp only [Value.okWide, ht] at ho
    obtain ⟨cs, h, _⟩ := ho; exact ⟨cs, h⟩
  obtain ⟨cs, rfl⟩ := this
  refine ⟨_, ⟨vs, hA, rfl⟩, by simpa [AV.data, AV.isd] using h2, ?_⟩
  simp only [Con]
  exact ⟨_, h3, by simp [Value.cells]⟩
def ArgsR (P : Program) : List TypeId → List (AV → Prop) → Prop
  | [], Bs => Bs = []
  | _ :: _, [] => False
  | t :: ts, B :: Bs => ArgR P t B ∧ ArgsR P ts Bs
def AllB : List (AV → Prop) → List AV → Prop
  | [], vs => vs = []
  | B :: Bs, vs => ∃ v vs', vs = v :: vs' ∧ B v ∧ AllB Bs vs'
theorem args_read {P : Program} {H : Type} {enc : TypeId × Value → H} {W : World} {base : Nat} : ∀ {ts : List TypeId} {Bs : List (AV → Prop)} {vs : List Value} {ds : List (DataW H)} {ps : List MemPlace}, ArgsR P ts Bs →
    (∀ (j : Nat) t v, ts[j]? = some t → vs[j]? = some v → Value.okWide P W .any base t v) → DataW.TrodAll enc P W 0 (fun _ => true) true ts vs ds ps → ∃ avs, AllB Bs avs ∧ ConL Env.nil (Old W) W avs vs
  | [], Bs, [], [], ps, hB, _, _ => by cases hB; exact ⟨[], rfl, conL_nil⟩
  | t :: ts, B :: Bs, v :: vs, d :: ds, ps, hB, ho, h => by
    obtain ⟨p, q, h1, h2, rfl⟩ := h
    obtain ⟨a, e1, _, e2⟩ := hB.1 _ enc W base v d p (ho 0 t v rfl rfl) h1
    obtain ⟨avs, g1, g2⟩ := args_read hB.2 (fun j t' v' hj hv => ho (j + 1) t' v' (by simpa using hj) (by simpa using hv)) h2
    exact ⟨a :: avs, ⟨a, avs, rfl, e1, g1⟩, conL_cons e2 g2⟩
  | [], _, _ :: _, _, _, _, _, h | [], _, [], _ :: _, _, _, _, h => by simp [DataW.TrodAll] at h
  | _ :: _, [], _, _, _, hB, _, _ => hB.elim
  | _ :: _, _ :: _, [], _, _, _, _, h | _ :: _, _ :: _, _ :: _, [], _, _, _, h => by simp [DataW.TrodAll] at h
theorem trodAll_stays {P : Program} {H : Type} {enc : TypeId × Value → H} (hl : laidOutB P = true) {W W' : World} (hb : Below W.heap.size W W') : ∀ {ts : List TypeId} {vs : List Value} {ds : List (DataW H)} {ps : List MemPlace},
    (∀ t ∈ ts, P.readableRec t = true ∧ t < P.types.size) → DataW.TrodAll enc P W 0 (fun _ => true) true ts vs ds ps → DataW.TrodAll enc P W' 0 (fun b => decide (b < W.heap.size)) true ts vs ds ps
  | [], [], [], ps, _, h => h
  | t :: ts, v :: vs, d :: ds, ps, hr, h => by
    have hlt := DataW.TrodAll.lt h
    obtain ⟨p, q, h1, h2, rfl⟩ := h
    exact ⟨p, q, Below.trod hl (hr t List.mem_cons_self).1 (hr t List.mem_cons_self).2 h1 hb fun x hx => hlt x (List.mem_append_left _ hx), trodAll_stays hl hb (fun t ht => hr t (List.mem_cons_of_mem _ ht)) h2, rfl⟩
  | [], [], _ :: _, _, _, h | [], _ :: _, _, _, _, h | _ :: _, [], _, _, _, h | _ :: _, _ :: _, [], _, _, h => by simp [DataW.TrodAll] at h
theorem trodL {P : Program} {H : Type} {enc : TypeId × Value → H} {W : World} {base : Nat} {sp : Nat → Bool} {held : Bool} : ∀ {ts : List TypeId} {vs : List Value} {ds : List (DataW H)} {ps : List MemPlace}, DataW.TrodAll enc P W base sp held ts vs ds ps → ds.length = ts.length
  | [], [], [], _, _ => rfl
  | _ :: _, _ :: _, _ :: _, _, ⟨_, _, _, h, _⟩ => by simp [trodL h]
  | [], [], _ :: _, _, h | [], _ :: _, _, _, h | _ :: _, [], _, _, h | _ :: _, _ :: _, [], _, h => by simp [DataW.TrodAll] at h
theorem handed {C : Checked} {os : Os} {H : Type} {enc : TypeId × Value → H} {f : FuncId} {fn : Func} {s : ChangeSpec} {fresh handsOn : Bool} {tb : TypeId}
    (own : ownKnob C.prog.godebug = none) (started : os.Started) (noInit : C.prog.inits.idxOf? f = none) (hfn : C.prog.funcs[f]? = some fn)
    (witness : ∃ (w : World) (tape : Tape) (i : Input), w.os = os ∧ (w.forCall tape i).Shaped C.prog ∧ i.vars = [] ∧ Input.okWide C.prog (w.forCall tape i) .any w.heap.size f i ∧
      s.pre6 enc C.prog fn [] false (w.forCall tape i).memory i.args ∧ ({} : Assume).holds C.prog (lone (Frame.enter C.prog f i.args .normal) [] (w.forCall tape i)))
    (hv : s.vars = []) (hs : ∀ ds : List (DataW H), ds.length = fn.params.size → s.fn H ds = { results := [.lit (.bool true)], args := ds })
    (hl : laidOutB C.prog = true) (hp : (fn.params.toList.all fun t => C.prog.readableRec t && decide (t < C.prog.types.size)) = true) (hres : fn.resultTypes = #[tb]) (hb : C.prog.underlying tb = some .bool)
    {Bs : List (AV → Prop)} (hB : ArgsR C.prog fn.params.toList Bs) (hpure : ∀ vs, AllB Bs vs → Pure C.prog f vs (.bool true)) :
    ReturnsInHanded {} C os f .any (s.pre6 enc C.prog fn [] false) (s.post enc C.prog fn false fresh handsOn false) := by
  refine returnsInHanded_of_change own started noInit hfn witness ?_
  intro W base args ds gs before hval hW _ _
  have hW' := hW
  obtain ⟨p, q, hA, hV, rfl, _, _⟩ := hW
  obtain ⟨avs, h1, h2⟩ := args_read hB (fun j t v hj hv => hval j t v (by simpa using hj) (by simpa using hv)) hA
  rw [hv] at hV
  obtain ⟨rfl, rfl⟩ := trodVars_none hV
  refine (hpure avs h1 (Old W) W args.toList (fun _ h => h) h2).mono ?_
  rintro e W' ⟨x, Φ', rfl, h3, h4, _⟩
  simp only [Con] at h3; subst h3
  refine ⟨_, rfl, ds, [], _, [], p, [], hW', ?_, ?_, ?_, ⟨h4.os, h4.output, fun i hi => ?_⟩, fun h => by cases h⟩
  · rw [hs _ (by simpa using trodL hA), hres]
    exact trodAll_mk1 (shut_bool hb _)
  · rw [hs _ (by simpa using trodL hA), List.append_nil]
    exact trodAll_stays hl h4 (fun t ht => by simpa using List.all_eq_true.1 hp t ht) hA
  · rw [hs _ (by simpa using trodL hA), hv]
    rfl
  · have := h4.block i hi
    rw [this]
    cases h : W.heap[i]? with
    | none => simp
    | some o => cases o <;> simp
end Go.AE
end

section
namespace Go.Proofs.Ythlolelbmhfdbaa
open Go.AE
set_option maxRecDepth 100000
instance : TyVar Try.prog 1 false 1 := ⟨fun _ => by kernel_rfl, fun _ => by kernel_rfl, by simp⟩
instance : TyZero Try.prog 1 [.nilf] := ⟨⟨.nilFunc, fun _ => by kernel_rfl, rfl⟩⟩
instance : TyVar Try.prog 2 false 1 := ⟨fun _ => by kernel_rfl, fun _ => by kernel_rfl, by simp⟩
instance : TyZero Try.prog 2 [.int .i64 0] := ⟨⟨.int .i64 0, fun _ => by kernel_rfl, rfl⟩⟩
instance : TyInt Try.prog 2 .i64 := ⟨Try.underlying2⟩
instance : TyVar Try.prog 3 false 1 := ⟨fun _ => by kernel_rfl, fun _ => by kernel_rfl, by simp⟩
instance : TyZero Try.prog 3 [.int .i64 0] := ⟨⟨.int .i64 0, fun _ => by kernel_rfl, rfl⟩⟩
instance : TyInt Try.prog 3 .i64 := ⟨Try.underlying3⟩
instance : TyVar Try.prog 4 false 1 := ⟨fun _ => by kernel_rfl, fun _ => by kernel_rfl, by simp⟩
instance : TyZero Try.prog 4 [.bool false] := ⟨⟨.bool false, fun _ => by kernel_rfl, rfl⟩⟩
instance : TyVar Try.prog 5 false 1 := ⟨fun _ => by kernel_rfl, fun _ => by kernel_rfl, by simp⟩
instance : TyZero Try.prog 5 [.int .u8 0] := ⟨⟨.int .u8 0, fun _ => by kernel_rfl, rfl⟩⟩
instance : TyInt Try.prog 5 .u8 := ⟨Try.underlying5⟩
instance : TyVar Try.prog 21 false 1 := ⟨fun _ => by kernel_rfl, fun _ => by kernel_rfl, by simp⟩
instance : TyZero Try.prog 21 [.int .i32 0] := ⟨⟨.int .i32 0, fun _ => by kernel_rfl, rfl⟩⟩
instance : TyInt Try.prog 21 .i32 := ⟨Try.underlying21⟩
instance : TyVar Try.prog 22 false 1 := ⟨fun _ => by kernel_rfl, fun _ => by kernel_rfl, by simp⟩
instance : TyZero Try.prog 22 [.nils] := ⟨⟨.slice none 0 0, fun _ => by kernel_rfl, rfl⟩⟩
instance : TySl Try.prog 22 46 1 := ⟨Try.underlying22, fun _ => by kernel_rfl⟩
instance : TyVar Try.prog 23 true 3 := ⟨fun _ => by kernel_rfl, fun _ => by kernel_rfl, by simp⟩
instance : TyZero Try.prog 23 [.int .i64 0, .int .i64 0, .nils] := ⟨⟨.agg #[.int .i64 0, .int .i64 0, .slice none 0 0], fun _ => by kernel_rfl, rfl⟩⟩
instance : TyField Try.prog 23 0 0 := ⟨fun _ _ _ => by kernel_rfl⟩
instance : TyPart Try.prog 23 0 0 3 := ⟨fun _ _ => by kernel_rfl⟩
instance : TyField Try.prog 23 1 1 := ⟨fun _ _ _ => by kernel_rfl⟩
instance : TyPart Try.prog 23 1 1 3 := ⟨fun _ _ => by kernel_rfl⟩
instance : TyField Try.prog 23 2 2 := ⟨fun _ _ _ => by kernel_rfl⟩
instance : TyPart Try.prog 23 2 2 22 := ⟨fun _ _ => by kernel_rfl⟩
instance : TyBuild Try.prog 23 [.int .i64 0, .int .i64 0, .nils] (fun i => ([(0, 1), (1, 1), (2, 1)] : List (Nat × Nat))[i]?) := TyBuild.of_struct (zv := .agg #[.int .i64 0, .int .i64 0, .slice none 0 0]) (fun _ => by kernel_rfl) rfl Try.underlying23 (fun _ => by kernel_rfl)
instance : TyVar Try.prog 24 true 3 := ⟨fun _ => by kernel_rfl, fun _ => by kernel_rfl, by simp⟩
instance : TyZero Try.prog 24 [.int .i64 0, .int .i64 0, .nils] := ⟨⟨.agg #[.int .i64 0, .int .i64 0, .slice none 0 0], fun _ => by kernel_rfl, rfl⟩⟩
instance : TyField Try.prog 24 0 0 := ⟨fun _ _ _ => by kernel_rfl⟩
instance : TyPart Try.prog 24 0 0 3 := ⟨fun _ _ => by kernel_rfl⟩
instance : TyField Try.prog 24 1 1 := ⟨fun _ _ _ => by kernel_rfl⟩
instance : TyPart Try.prog 24 1 1 3 := ⟨fun _ _ => by kernel_rfl⟩
instance : TyField Try.prog 24 2 2 := ⟨fun _ _ _ => by kernel_rfl⟩
instance : TyPart Try.prog 24 2 2 22 := ⟨fun _ _ => by kernel_rfl⟩
instance : TyBuild Try.prog 24 [.int .i64 0, .int .i64 0, .nils] (fun i => ([(0, 1), (1, 1), (2, 1)] : List (Nat × Nat))[i]?) := TyBuild.of_struct (zv := .agg #[.int .i64 0, .int .i64 0, .slice none 0 0]) (fun _ => by kernel_rfl) rfl Try.underlying24 (fun _ => by kernel_rfl)
instance : TyVar Try.prog 25 false 1 := ⟨fun _ => by kernel_rfl, fun _ => by kernel_rfl, by simp⟩
instance : TyZero Try.prog 25 [.nilf] := ⟨⟨.nilFunc, fun _ => by kernel_rfl, rfl⟩⟩
instance : TyVar Try.prog 26 false 1 := ⟨fun _ => by kernel_rfl, fun _ => by kernel_rfl, by simp⟩
instance : TyZero Try.prog 26 [.nilf] := ⟨⟨.nilFunc, fun _ => by kernel_rfl, rfl⟩⟩
instance : TyVar Try.prog 27 false 1 := ⟨fun _ => by kernel_rfl, fun _ => by kernel_rfl, by simp⟩
instance : TyZero Try.prog 27 [.nils] := ⟨⟨.slice none 0 0, fun _ => by kernel_rfl, rfl⟩⟩
instance : TySl Try.prog 27 3 1 := ⟨Try.underlying27, fun _ => by kernel_rfl⟩
instance : TyVar Try.prog 28 false 1 := ⟨fun _ => by kernel_rfl, fun _ => by kernel_rfl, by simp⟩
instance : TyZero Try.prog 28 [.int .i64 0] := ⟨⟨.int .i64 0, fun _ => by kernel_rfl, rfl⟩⟩
instance : TyInt Try.prog 28 .i64 := ⟨Try.underlying28⟩
instance : TyVar Try.prog 30 false 1 := ⟨fun _ => by kernel_rfl, fun _ => by kernel_rfl, by simp⟩
instance : TyZero Try.prog 30 [.nilf] := ⟨⟨.nilFunc, fun _ => by kernel_rfl, rfl⟩⟩
instance : TyVar Try.prog 32 false 1 := ⟨fun _ => by kernel_rfl, fun _ => by kernel_rfl, by simp⟩
instance : TyZero Try.prog 32 [.nilf] := ⟨⟨.nilFunc, fun _ => by kernel_rfl, rfl⟩⟩
instance : TyVar Try.prog 33 false 1 := ⟨fun _ => by kernel_rfl, fun _ => by kernel_rfl, by simp⟩
instance : TyZero Try.prog 33 [.nilf] := ⟨⟨.nilFunc, fun _ => by kernel_rfl, rfl⟩⟩
instance : TyVar Try.prog 34 false 1 := ⟨fun _ => by kernel_rfl, fun _ => by kernel_rfl, by simp⟩
instance : TyZero Try.prog 34 [.nilf] := ⟨⟨.nilFunc, fun _ => by kernel_rfl, rfl⟩⟩
instance : TyVar Try.prog 35 false 1 := ⟨fun _ => by kernel_rfl, fun _ => by kernel_rfl, by simp⟩
instance : TyZero Try.prog 35 [.nilf] := ⟨⟨.nilFunc, fun _ => by kernel_rfl, rfl⟩⟩
instance : TyVar Try.prog 37 false 1 := ⟨fun _ => by kernel_rfl, fun _ => by kernel_rfl, by simp⟩
instance : TyZero Try.prog 37 [.nilf] := ⟨⟨.nilFunc, fun _ => by kernel_rfl, rfl⟩⟩
instance : TyVar Try.prog 38 false 1 := ⟨fun _ => by kernel_rfl, fun _ => by kernel_rfl, by simp⟩
instance : TyZero Try.prog 38 [.nilf] := ⟨⟨.nilFunc, fun _ => by kernel_rfl, rfl⟩⟩
instance : TyVar Try.prog 39 false 1 := ⟨fun _ => by kernel_rfl, fun _ => by kernel_rfl, by simp⟩
instance : TyZero Try.prog 39 [.nilf] := ⟨⟨.nilFunc, fun _ => by kernel_rfl, rfl⟩⟩
instance : TyVar Try.prog 40 false 1 := ⟨fun _ => by kernel_rfl, fun _ => by kernel_rfl, by simp⟩
instance : TyZero Try.prog 40 [.nilf] := ⟨⟨.nilFunc, fun _ => by kernel_rfl, rfl⟩⟩
instance : TyVar Try.prog 41 false 1 := ⟨fun _ => by kernel_rfl, fun _ => by kernel_rfl, by simp⟩
instance : TyZero Try.prog 41 [.nilf] := ⟨⟨.nilFunc, fun _ => by kernel_rfl, rfl⟩⟩
instance : TyVar Try.prog 42 false 1 := ⟨fun _ => by kernel_rfl, fun _ => by kernel_rfl, by simp⟩
instance : TyZero Try.prog 42 [.nilf] := ⟨⟨.nilFunc, fun _ => by kernel_rfl, rfl⟩⟩
instance : TyVar Try.prog 43 true 4 := ⟨fun _ => by kernel_rfl, fun _ => by kernel_rfl, by simp⟩
instance : TyZero Try.prog 43 [.int .i64 0, .int .i64 0, .int .i64 0, .int .i64 0] := ⟨⟨.agg #[.int .i64 0, .int .i64 0, .int .i64 0, .int .i64 0], fun _ => by kernel_rfl, rfl⟩⟩
instance : TyField Try.prog 43 0 0 := ⟨fun _ _ _ => by kernel_rfl⟩
instance : TyPart Try.prog 43 0 0 3 := ⟨fun _ _ => by kernel_rfl⟩
instance : TyField Try.prog 43 1 1 := ⟨fun _ _ _ => by kernel_rfl⟩
instance : TyPart Try.prog 43 1 1 3 := ⟨fun _ _ => by kernel_rfl⟩
instance : TyField Try.prog 43 2 2 := ⟨fun _ _ _ => by kernel_rfl⟩
instance : TyPart Try.prog 43 2 2 3 := ⟨fun _ _ => by kernel_rfl⟩
instance : TyField Try.prog 43 3 3 := ⟨fun _ _ _ => by kernel_rfl⟩
instance : TyPart Try.prog 43 3 3 3 := ⟨fun _ _ => by kernel_rfl⟩
instance : TyBuild Try.prog 43 [.int .i64 0, .int .i64 0, .int .i64 0, .int .i64 0] (fun i => ([(0, 1), (1, 1), (2, 1), (3, 1)] : List (Nat × Nat))[i]?) := TyBuild.of_struct (zv := .agg #[.int .i64 0, .int .i64 0, .int .i64 0, .int .i64 0]) (fun _ => by kernel_rfl) rfl Try.underlying43 (fun _ => by kernel_rfl)
instance : TyVar Try.prog 44 true 4 := ⟨fun _ => by kernel_rfl, fun _ => by kernel_rfl, by simp⟩
instance : TyZero Try.prog 44 [.int .i64 0, .int .i64 0, .int .i64 0, .int .i64 0] := ⟨⟨.agg #[.int .i64 0, .int .i64 0, .int .i64 0, .int .i64 0], fun _ => by kernel_rfl, rfl⟩⟩
instance : TyField Try.prog 44 0 0 := ⟨fun _ _ _ => by kernel_rfl⟩
instance : TyPart Try.prog 44 0 0 3 := ⟨fun _ _ => by kernel_rfl⟩
instance : TyField Try.prog 44 1 1 := ⟨fun _ _ _ => by kernel_rfl⟩
instance : TyPart Try.prog 44 1 1 3 := ⟨fun _ _ => by kernel_rfl⟩
instance : TyField Try.prog 44 2 2 := ⟨fun _ _ _ => by kernel_rfl⟩
instance : TyPart Try.prog 44 2 2 3 := ⟨fun _ _ => by kernel_rfl⟩
instance : TyField Try.prog 44 3 3 := ⟨fun _ _ _ => by kernel_rfl⟩
instance : TyPart Try.prog 44 3 3 3 := ⟨fun _ _ => by kernel_rfl⟩
instance : TyBuild Try.prog 44 [.int .i64 0, .int .i64 0, .int .i64 0, .int .i64 0] (fun i => ([(0, 1), (1, 1), (2, 1), (3, 1)] : List (Nat × Nat))[i]?) := TyBuild.of_struct (zv := .agg #[.int .i64 0, .int .i64 0, .int .i64 0, .int .i64 0]) (fun _ => by kernel_rfl) rfl Try.underlying44 (fun _ => by kernel_rfl)
instance : TyVar Try.prog 45 false 1 := ⟨fun _ => by kernel_rfl, fun _ => by kernel_rfl, by simp⟩
instance : TyZero Try.prog 45 [.nilf] := ⟨⟨.nilFunc, fun _ => by kernel_rfl, rfl⟩⟩
instance : TyVar Try.prog 46 false 1 := ⟨fun _ => by kernel_rfl, fun _ => by kernel_rfl, by simp⟩
instance : TyZero Try.prog 46 [.nils] := ⟨⟨.slice none 0 0, fun _ => by kernel_rfl, rfl⟩⟩
instance : TySl Try.prog 46 44 4 := ⟨Try.underlying46, fun _ => by kernel_rfl⟩
instance : TyVar Try.prog 48 false 1 := ⟨fun _ => by kernel_rfl, fun _ => by kernel_rfl, by simp⟩
instance : TyZero Try.prog 48 [.nilf] := ⟨⟨.nilFunc, fun _ => by kernel_rfl, rfl⟩⟩
instance : TyVar Try.prog 50 false 1 := ⟨fun _ => by kernel_rfl, fun _ => by kernel_rfl, by simp⟩
instance : TyZero Try.prog 50 [.nilf] := ⟨⟨.nilFunc, fun _ => by kernel_rfl, rfl⟩⟩
instance : TyVar Try.prog 51 false 1 := ⟨fun _ => by kernel_rfl, fun _ => by kernel_rfl, by simp⟩
instance : TyZero Try.prog 51 [.nilf] := ⟨⟨.nilFunc, fun _ => by kernel_rfl, rfl⟩⟩
instance : TyVar Try.prog 52 false 1 := ⟨fun _ => by kernel_rfl, fun _ => by kernel_rfl, by simp⟩
instance : TyZero Try.prog 52 [.nilf] := ⟨⟨.nilFunc, fun _ => by kernel_rfl, rfl⟩⟩
instance : TyVar Try.prog 53 false 1 := ⟨fun _ => by kernel_rfl, fun _ => by kernel_rfl, by simp⟩
instance : TyZero Try.prog 53 [.nilf] := ⟨⟨.nilFunc, fun _ => by kernel_rfl, rfl⟩⟩
instance : TyVar Try.prog 55 false 1 := ⟨fun _ => by kernel_rfl, fun _ => by kernel_rfl, by simp⟩
instance : TyZero Try.prog 55 [.nilf] := ⟨⟨.nilFunc, fun _ => by kernel_rfl, rfl⟩⟩
instance : TyVar Try.prog 56 false 1 := ⟨fun _ => by kernel_rfl, fun _ => by kernel_rfl, by simp⟩
instance : TyZero Try.prog 56 [.nilf] := ⟨⟨.nilFunc, fun _ => by kernel_rfl, rfl⟩⟩
instance : TyVar Try.prog 57 false 1 := ⟨fun _ => by kernel_rfl, fun _ => by kernel_rfl, by simp⟩
instance : TyZero Try.prog 57 [.nilf] := ⟨⟨.nilFunc, fun _ => by kernel_rfl, rfl⟩⟩
instance : TyVar Try.prog 58 false 1 := ⟨fun _ => by kernel_rfl, fun _ => by kernel_rfl, by simp⟩
instance : TyZero Try.prog 58 [.nils] := ⟨⟨.slice none 0 0, fun _ => by kernel_rfl, rfl⟩⟩
instance : TySl Try.prog 58 5 1 := ⟨Try.underlying58, fun _ => by kernel_rfl⟩
instance : TyVar Try.prog 59 false 1 := ⟨fun _ => by kernel_rfl, fun _ => by kernel_rfl, by simp⟩
instance : TyZero Try.prog 59 [.nilf] := ⟨⟨.nilFunc, fun _ => by kernel_rfl, rfl⟩⟩
instance : TyVar Try.prog 60 true 4 := ⟨fun _ => by kernel_rfl, fun _ => by kernel_rfl, by simp⟩
instance : TyZero Try.prog 60 [.int .u8 0, .int .u8 0, .int .u8 0, .int .u8 0] := ⟨⟨.agg #[.int .u8 0, .int .u8 0, .int .u8 0, .int .u8 0], fun _ => by kernel_rfl, rfl⟩⟩
instance ar60 : TyAr Try.prog 60 4 5 1 := ⟨Try.underlying60, fun _ => by kernel_rfl⟩
instance : TyBuild Try.prog 60 [.int .u8 0, .int .u8 0, .int .u8 0, .int .u8 0] (fun i => some (i * 1, 1)) := TyBuild.of_array (zv := .agg #[.int .u8 0, .int .u8 0, .int .u8 0, .int .u8 0]) (fun _ => by kernel_rfl) rfl ar60
instance : TyVar Try.prog 61 false 1 := ⟨fun _ => by kernel_rfl, fun _ => by kernel_rfl, by simp⟩
instance : TyZero Try.prog 61 [.nilf] := ⟨⟨.nilFunc, fun _ => by kernel_rfl, rfl⟩⟩
instance : TyVar Try.prog 62 false 1 := ⟨fun _ => by kernel_rfl, fun _ => by kernel_rfl, by simp⟩
instance : TyZero Try.prog 62 [.nilf] := ⟨⟨.nilFunc, fun _ => by kernel_rfl, rfl⟩⟩
instance : TyVar Try.prog 63 false 1 := ⟨fun _ => by kernel_rfl, fun _ => by kernel_rfl, by simp⟩
instance : TyZero Try.prog 63 [.nilf] := ⟨⟨.nilFunc, fun _ => by kernel_rfl, rfl⟩⟩
instance : TyVar Try.prog 64 false 1 := ⟨fun _ => by kernel_rfl, fun _ => by kernel_rfl, by simp⟩
instance : TyZero Try.prog 64 [.nilf] := ⟨⟨.nilFunc, fun _ => by kernel_rfl, rfl⟩⟩
instance : TyVar Try.prog 65 false 1 := ⟨fun _ => by kernel_rfl, fun _ => by kernel_rfl, by simp⟩
instance : TyZero Try.prog 65 [.nilf] := ⟨⟨.nilFunc, fun _ => by kernel_rfl, rfl⟩⟩
instance : TyVar Try.prog 66 false 1 := ⟨fun _ => by kernel_rfl, fun _ => by kernel_rfl, by simp⟩
instance : TyZero Try.prog 66 [.nilf] := ⟨⟨.nilFunc, fun _ => by kernel_rfl, rfl⟩⟩
instance : TyVar Try.prog 67 false 1 := ⟨fun _ => by kernel_rfl, fun _ => by kernel_rfl, by simp⟩
instance : TyZero Try.prog 67 [.nilf] := ⟨⟨.nilFunc, fun _ => by kernel_rfl, rfl⟩⟩
instance : TyVar Try.prog 68 false 1 := ⟨fun _ => by kernel_rfl, fun _ => by kernel_rfl, by simp⟩
instance : TyZero Try.prog 68 [.nilf] := ⟨⟨.nilFunc, fun _ => by kernel_rfl, rfl⟩⟩
instance : TyVar Try.prog 69 false 1 := ⟨fun _ => by kernel_rfl, fun _ => by kernel_rfl, by simp⟩
instance : TyZero Try.prog 69 [.nilf] := ⟨⟨.nilFunc, fun _ => by kernel_rfl, rfl⟩⟩
instance : TyVar Try.prog 70 false 1 := ⟨fun _ => by kernel_rfl, fun _ => by kernel_rfl, by simp⟩
instance : TyZero Try.prog 70 [.nilf] := ⟨⟨.nilFunc, fun _ => by kernel_rfl, rfl⟩⟩
instance : TyVar Try.prog 71 false 1 := ⟨fun _ => by kernel_rfl, fun _ => by kernel_rfl, by simp⟩
instance : TyZero Try.prog 71 [.nilf] := ⟨⟨.nilFunc, fun _ => by kernel_rfl, rfl⟩⟩
instance : TyVar Try.prog 72 false 1 := ⟨fun _ => by kernel_rfl, fun _ => by kernel_rfl, by simp⟩
instance : TyZero Try.prog 72 [.nilf] := ⟨⟨.nilFunc, fun _ => by kernel_rfl, rfl⟩⟩
instance : TyVar Try.prog 73 false 1 := ⟨fun _ => by kernel_rfl, fun _ => by kernel_rfl, by simp⟩
instance : TyZero Try.prog 73 [.nilf] := ⟨⟨.nilFunc, fun _ => by kernel_rfl, rfl⟩⟩
instance : TyVar Try.prog 74 false 1 := ⟨fun _ => by kernel_rfl, fun _ => by kernel_rfl, by simp⟩
instance : TyZero Try.prog 74 [.nilp] := ⟨⟨.pointer none, fun _ => by kernel_rfl, rfl⟩⟩
instance : TyVar Try.prog 76 false 1 := ⟨fun _ => by kernel_rfl, fun _ => by kernel_rfl, by simp⟩
instance : TyZero Try.prog 76 [.nilf] := ⟨⟨.nilFunc, fun _ => by kernel_rfl, rfl⟩⟩
instance : TyVar Try.prog 77 false 1 := ⟨fun _ => by kernel_rfl, fun _ => by kernel_rfl, by simp⟩
instance : TyZero Try.prog 77 [.nilf] := ⟨⟨.nilFunc, fun _ => by kernel_rfl, rfl⟩⟩
instance : TyVar Try.prog 78 false 1 := ⟨fun _ => by kernel_rfl, fun _ => by kernel_rfl, by simp⟩
instance : TyZero Try.prog 78 [.nilf] := ⟨⟨.nilFunc, fun _ => by kernel_rfl, rfl⟩⟩
instance : TyVar Try.prog 79 true 2 := ⟨fun _ => by kernel_rfl, fun _ => by kernel_rfl, by simp⟩
instance : TyZero Try.prog 79 [.int .i64 0, .int .i64 0] := ⟨⟨.agg #[.int .i64 0, .int .i64 0], fun _ => by kernel_rfl, rfl⟩⟩
instance : TyField Try.prog 79 0 0 := ⟨fun _ _ _ => by kernel_rfl⟩
instance : TyPart Try.prog 79 0 0 3 := ⟨fun _ _ => by kernel_rfl⟩
instance : TyField Try.prog 79 1 1 := ⟨fun _ _ _ => by kernel_rfl⟩
instance : TyPart Try.prog 79 1 1 3 := ⟨fun _ _ => by kernel_rfl⟩
instance : TyBuild Try.prog 79 [.int .i64 0, .int .i64 0] (fun i => ([(0, 1), (1, 1)] : List (Nat × Nat))[i]?) := TyBuild.of_struct (zv := .agg #[.int .i64 0, .int .i64 0]) (fun _ => by kernel_rfl) rfl Try.underlying79 (fun _ => by kernel_rfl)
instance : TyVar Try.prog 80 true 2 := ⟨fun _ => by kernel_rfl, fun _ => by kernel_rfl, by simp⟩
instance : TyZero Try.prog 80 [.int .i64 0, .int .i64 0] := ⟨⟨.agg #[.int .i64 0, .int .i64 0], fun _ => by kernel_rfl, rfl⟩⟩
instance : TyField Try.prog 80 0 0 := ⟨fun _ _ _ => by kernel_rfl⟩
instance : TyPart Try.prog 80 0 0 3 := ⟨fun _ _ => by kernel_rfl⟩
instance : TyField Try.prog 80 1 1 := ⟨fun _ _ _ => by kernel_rfl⟩
instance : TyPart Try.prog 80 1 1 3 := ⟨fun _ _ => by kernel_rfl⟩
instance : TyBuild Try.prog 80 [.int .i64 0, .int .i64 0] (fun i => ([(0, 1), (1, 1)] : List (Nat × Nat))[i]?) := TyBuild.of_struct (zv := .agg #[.int .i64 0, .int .i64 0]) (fun _ => by kernel_rfl) rfl Try.underlying80 (fun _ => by kernel_rfl)
instance : TyVar Try.prog 81 false 1 := ⟨fun _ => by kernel_rfl, fun _ => by kernel_rfl, by simp⟩
instance : TyZero Try.prog 81 [.nilf] := ⟨⟨.nilFunc, fun _ => by kernel_rfl, rfl⟩⟩
instance : TyVar Try.prog 82 false 1 := ⟨fun _ => by kernel_rfl, fun _ => by kernel_rfl, by simp⟩
instance : TyZero Try.prog 82 [.nilm] := ⟨⟨.map none, fun _ => by kernel_rfl, rfl⟩⟩
instance : TyVar Try.prog 83 false 1 := ⟨fun _ => by kernel_rfl, fun _ => by kernel_rfl, by simp⟩
instance : TyZero Try.prog 83 [.nilf] := ⟨⟨.nilFunc, fun _ => by kernel_rfl, rfl⟩⟩
instance : TyVar Try.prog 84 false 1 := ⟨fun _ => by kernel_rfl, fun _ => by kernel_rfl, by simp⟩
instance : TyZero Try.prog 84 [.nilf] := ⟨⟨.nilFunc, fun _ => by kernel_rfl, rfl⟩⟩
instance : TyVar Try.prog 85 false 1 := ⟨fun _ => by kernel_rfl, fun _ => by kernel_rfl, by simp⟩
instance : TyZero Try.prog 85 [.nilf] := ⟨⟨.nilFunc, fun _ => by kernel_rfl, rfl⟩⟩
instance : TyVar Try.prog 86 false 1 := ⟨fun _ => by kernel_rfl, fun _ => by kernel_rfl, by simp⟩
instance : TyZero Try.prog 86 [.nilf] := ⟨⟨.nilFunc, fun _ => by kernel_rfl, rfl⟩⟩
instance : TyVar Try.prog 87 false 1 := ⟨fun _ => by kernel_rfl, fun _ => by kernel_rfl, by simp⟩
instance : TyZero Try.prog 87 [.nilf] := ⟨⟨.nilFunc, fun _ => by kernel_rfl, rfl⟩⟩
instance : TyVar Try.prog 88 false 1 := ⟨fun _ => by kernel_rfl, fun _ => by kernel_rfl, by simp⟩
instance : TyZero Try.prog 88 [.nilf] := ⟨⟨.nilFunc, fun _ => by kernel_rfl, rfl⟩⟩
instance : TyVar Try.prog 89 false 1 := ⟨fun _ => by kernel_rfl, fun _ => by kernel_rfl, by simp⟩
instance : TyZero Try.prog 89 [.nilf] := ⟨⟨.nilFunc, fun _ => by kernel_rfl, rfl⟩⟩
instance : TyVar Try.prog 90 false 1 := ⟨fun _ => by kernel_rfl, fun _ => by kernel_rfl, by simp⟩
instance : TyZero Try.prog 90 [.nilf] := ⟨⟨.nilFunc, fun _ => by kernel_rfl, rfl⟩⟩
instance : TyVar Try.prog 91 false 1 := ⟨fun _ => by kernel_rfl, fun _ => by kernel_rfl, by simp⟩
instance : TyZero Try.prog 91 [.nilf] := ⟨⟨.nilFunc, fun _ => by kernel_rfl, rfl⟩⟩
instance : TyVar Try.prog 92 false 1 := ⟨fun _ => by kernel_rfl, fun _ => by kernel_rfl, by simp⟩
instance : TyZero Try.prog 92 [.nilf] := ⟨⟨.nilFunc, fun _ => by kernel_rfl, rfl⟩⟩
instance : TyVar Try.prog 93 false 1 := ⟨fun _ => by kernel_rfl, fun _ => by kernel_rfl, by simp⟩
instance : TyZero Try.prog 93 [.nilf] := ⟨⟨.nilFunc, fun _ => by kernel_rfl, rfl⟩⟩
instance : TyVar Try.prog 94 false 1 := ⟨fun _ => by kernel_rfl, fun _ => by kernel_rfl, by simp⟩
instance : TyZero Try.prog 94 [.nilf] := ⟨⟨.nilFunc, fun _ => by kernel_rfl, rfl⟩⟩
instance : TyVar Try.prog 95 false 1 := ⟨fun _ => by kernel_rfl, fun _ => by kernel_rfl, by simp⟩
instance : TyZero Try.prog 95 [.nilf] := ⟨⟨.nilFunc, fun _ => by kernel_rfl, rfl⟩⟩
instance : TyVar Try.prog 96 false 1 := ⟨fun _ => by kernel_rfl, fun _ => by kernel_rfl, by simp⟩
instance : TyZero Try.prog 96 [.nilf] := ⟨⟨.nilFunc, fun _ => by kernel_rfl, rfl⟩⟩
instance : TyVar Try.prog 97 false 1 := ⟨fun _ => by kernel_rfl, fun _ => by kernel_rfl, by simp⟩
instance : TyZero Try.prog 97 [.nilf] := ⟨⟨.nilFunc, fun _ => by kernel_rfl, rfl⟩⟩
instance : TyVar Try.prog 98 false 1 := ⟨fun _ => by kernel_rfl, fun _ => by kernel_rfl, by simp⟩
instance : TyZero Try.prog 98 [.nilf] := ⟨⟨.nilFunc, fun _ => by kernel_rfl, rfl⟩⟩
instance : TyVar Try.prog 99 false 1 := ⟨fun _ => by kernel_rfl, fun _ => by kernel_rfl, by simp⟩
instance : TyZero Try.prog 99 [.nilf] := ⟨⟨.nilFunc, fun _ => by kernel_rfl, rfl⟩⟩
instance : TyVar Try.prog 100 false 1 := ⟨fun _ => by kernel_rfl, fun _ => by kernel_rfl, by simp⟩
instance : TyZero Try.prog 100 [.nilf] := ⟨⟨.nilFunc, fun _ => by kernel_rfl, rfl⟩⟩
instance : TyVar Try.prog 101 false 1 := ⟨fun _ => by kernel_rfl, fun _ => by kernel_rfl, by simp⟩
instance : TyZero Try.prog 101 [.nilf] := ⟨⟨.nilFunc, fun _ => by kernel_rfl, rfl⟩⟩
instance : TyVar Try.prog 102 false 1 := ⟨fun _ => by kernel_rfl, fun _ => by kernel_rfl, by simp⟩
instance : TyZero Try.prog 102 [.nilf] := ⟨⟨.nilFunc, fun _ => by kernel_rfl, rfl⟩⟩
instance : TyVar Try.prog 103 false 1 := ⟨fun _ => by kernel_rfl, fun _ => by kernel_rfl, by simp⟩
instance : TyZero Try.prog 103 [.nilf] := ⟨⟨.nilFunc, fun _ => by kernel_rfl, rfl⟩⟩
instance : TyVar Try.prog 104 false 1 := ⟨fun _ => by kernel_rfl, fun _ => by kernel_rfl, by simp⟩
instance : TyZero Try.prog 104 [.nilf] := ⟨⟨.nilFunc, fun _ => by kernel_rfl, rfl⟩⟩
instance : TyVar Try.prog 105 false 1 := ⟨fun _ => by kernel_rfl, fun _ => by kernel_rfl, by simp⟩
instance : TyZero Try.prog 105 [.nilf] := ⟨⟨.nilFunc, fun _ => by kernel_rfl, rfl⟩⟩
instance : TyVar Try.prog 106 false 1 := ⟨fun _ => by kernel_rfl, fun _ => by kernel_rfl, by simp⟩
instance : TyZero Try.prog 106 [.nilf] := ⟨⟨.nilFunc, fun _ => by kernel_rfl, rfl⟩⟩
instance : TyVar Try.prog 107 false 1 := ⟨fun _ => by kernel_rfl, fun _ => by kernel_rfl, by simp⟩
instance : TyZero Try.prog 107 [.nilf] := ⟨⟨.nilFunc, fun _ => by kernel_rfl, rfl⟩⟩
instance : TyVar Try.prog 108 false 1 := ⟨fun _ => by kernel_rfl, fun _ => by kernel_rfl, by simp⟩
instance : TyZero Try.prog 108 [.nils] := ⟨⟨.slice none 0 0, fun _ => by kernel_rfl, rfl⟩⟩
instance : TySl Try.prog 108 113 1 := ⟨Try.underlying108, fun _ => by kernel_rfl⟩
instance : TyVar Try.prog 109 true 4 := ⟨fun _ => by kernel_rfl, fun _ => by kernel_rfl, by simp⟩
instance : TyZero Try.prog 109 [.int .i64 0, .int .i64 0, .nils, .nils] := ⟨⟨.agg #[.int .i64 0, .int .i64 0, .slice none 0 0, .slice none 0 0], fun _ => by kernel_rfl, rfl⟩⟩
instance : TyField Try.prog 109 0 0 := ⟨fun _ _ _ => by kernel_rfl⟩
instance : TyPart Try.prog 109 0 0 24 := ⟨fun _ _ => by kernel_rfl⟩
instance : TyField Try.prog 109 1 3 := ⟨fun _ _ _ => by kernel_rfl⟩
instance : TyPart Try.prog 109 1 3 108 := ⟨fun _ _ => by kernel_rfl⟩
instance : TyBuild Try.prog 109 [.int .i64 0, .int .i64 0, .nils, .nils] (fun i => ([(0, 3), (3, 1)] : List (Nat × Nat))[i]?) := TyBuild.of_struct (zv := .agg #[.int .i64 0, .int .i64 0, .slice none 0 0, .slice none 0 0]) (fun _ => by kernel_rfl) rfl Try.underlying109 (fun _ => by kernel_rfl)
instance : TyVar Try.prog 110 true 4 := ⟨fun _ => by kernel_rfl, fun _ => by kernel_rfl, by simp⟩
instance : TyZero Try.prog 110 [.int .i64 0, .int .i64 0, .nils, .nils] := ⟨⟨.agg #[.int .i64 0, .int .i64 0, .slice none 0 0, .slice none 0 0], fun _ => by kernel_rfl, rfl⟩⟩
instance : TyField Try.prog 110 0 0 := ⟨fun _ _ _ => by kernel_rfl⟩
instance : TyPart Try.prog 110 0 0 24 := ⟨fun _ _ => by kernel_rfl⟩
instance : TyField Try.prog 110 1 3 := ⟨fun _ _ _ => by kernel_rfl⟩
instance : TyPart Try.prog 110 1 3 108 := ⟨fun _ _ => by kernel_rfl⟩
instance : TyBuild Try.prog 110 [.int .i64 0, .int .i64 0, .nils, .nils] (fun i => ([(0, 3), (3, 1)] : List (Nat × Nat))[i]?) := TyBuild.of_struct (zv := .agg #[.int .i64 0, .int .i64 0, .slice none 0 0, .slice none 0 0]) (fun _ => by kernel_rfl) rfl Try.underlying110 (fun _ => by kernel_rfl)
instance : TyVar Try.prog 111 true 48 := ⟨fun _ => by kernel_rfl, fun _ => by kernel_rfl, by simp⟩
instance : TyZero Try.prog 111 [.int .i64 0, .int .i64 0, .int .i64 0, .int .i64 0, .int .i64 0, .int .i64 0, .int .i64 0, .int .i64 0, .int .i64 0, .int .i64 0, .int .i64 0, .int .i64 0, .int .i64 0, .int .i64 0, .int .i64 0, .int .i64 0, .int .i64 0, .int .i64 0, .int .i64 0, .int .i64 0, .int .i64 0, .int .i64 0, .int .i64 0, .int .i64 0, .int .i64 0, .int .i64 0, .int .i64 0, .int .i64 0, .int .i64 0, .int .i64 0, .int .i64 0, .int .i64 0, .int .i64 0, .int .i64 0, .int .i64 0, .int .i64 0, .int .i64 0, .int .i64 0, .int .i64 0, .int .i64 0, .int .i64 0, .int .i64 0, .int .i64 0, .int .i64 0, .int .i64 0, .int .i64 0, .int .i64 0, .int .i64 0] := ⟨⟨.agg #[.int .i64 0, .int .i64 0, .int .i64 0, .int .i64 0, .int .i64 0, .int .i64 0, .int .i64 0, .int .i64 0, .int .i64 0, .int .i64 0, .int .i64 0, .int .i64 0, .int .i64 0, .int .i64 0, .int .i64 0, .int .i64 0, .int .i64 0, .int .i64 0, .int .i64 0, .int .i64 0, .int .i64 0, .int .i64 0, .int .i64 0, .int .i64 0, .int .i64 0, .int .i64 0, .int .i64 0, .int .i64 0, .int .i64 0, .int .i64 0, .int .i64 0, .int .i64 0, .int .i64 0, .int .i64 0, .int .i64 0, .int .i64 0, .int .i64 0, .int .i64 0, .int .i64 0, .int .i64 0, .int .i64 0, .int .i64 0, .int .i64 0, .int .i64 0, .int .i64 0, .int .i64 0, .int .i64 0, .int .i64 0], fun _ => by kernel_rfl, rfl⟩⟩
instance ar111 : TyAr Try.prog 111 48 3 1 := ⟨Try.underlying111, fun _ => by kernel_rfl⟩
instance : TyBuild Try.prog 111 [.int .i64 0, .int .i64 0, .int .i64 0, .int .i64 0, .int .i64 0, .int .i64 0, .int .i64 0, .int .i64 0, .int .i64 0, .int .i64 0, .int .i64 0, .int .i64 0, .int .i64 0, .int .i64 0, .int .i64 0, .int .i64 0, .int .i64 0, .int .i64 0, .int .i64 0, .int .i64 0, .int .i64 0, .int .i64 0, .int .i64 0, .int .i64 0, .int .i64 0, .int .i64 0, .int .i64 0, .int .i64 0, .int .i64 0, .int .i64 0, .int .i64 0, .int .i64 0, .int .i64 0, .int .i64 0, .int .i64 0, .int .i64 0, .int .i64 0, .int .i64 0, .int .i64 0, .int .i64 0, .int .i64 0, .int .i64 0, .int .i64 0, .int .i64 0, .int .i64 0, .int .i64 0, .int .i64 0, .int .i64 0] (fun i => some (i * 1, 1)) := TyBuild.of_array (zv := .agg #[.int .i64 0, .int .i64 0, .int .i64 0, .int .i64 0, .int .i64 0, .int .i64 0, .int .i64 0, .int .i64 0, .int .i64 0, .int .i64 0, .int .i64 0, .int .i64 0, .int .i64 0, .int .i64 0, .int .i64 0, .int .i64 0, .int .i64 0, .int .i64 0, .int .i64 0, .int .i64 0, .int .i64 0, .int .i64 0, .int .i64 0, .int .i64 0, .int .i64 0, .int .i64 0, .int .i64 0, .int .i64 0, .int .i64 0, .int .i64 0, .int .i64 0, .int .i64 0, .int .i64 0, .int .i64 0, .int .i64 0, .int .i64 0, .int .i64 0, .int .i64 0, .int .i64 0, .int .i64 0, .int .i64 0, .int .i64 0, .int .i64 0, .int .i64 0, .int .i64 0, .int .i64 0, .int .i64 0, .int .i64 0]) (fun _ => by kernel_rfl) rfl ar111
instance : TyVar Try.prog 112 true 48 := ⟨fun _ => by kernel_rfl, fun _ => by kernel_rfl, by simp⟩
instance : TyZero Try.prog 112 [.int .i64 0, .int .i64 0, .int .i64 0, .int .i64 0, .int .i64 0, .int .i64 0, .int .i64 0, .int .i64 0, .int .i64 0, .int .i64 0, .int .i64 0, .int .i64 0, .int .i64 0, .int .i64 0, .int .i64 0, .int .i64 0, .int .i64 0, .int .i64 0, .int .i64 0, .int .i64 0, .int .i64 0, .int .i64 0, .int .i64 0, .int .i64 0, .int .i64 0, .int .i64 0, .int .i64 0, .int .i64 0, .int .i64 0, .int .i64 0, .int .i64 0, .int .i64 0, .int .i64 0, .int .i64 0, .int .i64 0, .int .i64 0, .int .i64 0, .int .i64 0, .int .i64 0, .int .i64 0, .int .i64 0, .int .i64 0, .int .i64 0, .int .i64 0, .int .i64 0, .int .i64 0, .int .i64 0, .int .i64 0] := ⟨⟨.agg #[.int .i64 0, .int .i64 0, .int .i64 0, .int .i64 0, .int .i64 0, .int .i64 0, .int .i64 0, .int .i64 0, .int .i64 0, .int .i64 0, .int .i64 0, .int .i64 0, .int .i64 0, .int .i64 0, .int .i64 0, .int .i64 0, .int .i64 0, .int .i64 0, .int .i64 0, .int .i64 0, .int .i64 0, .int .i64 0, .int .i64 0, .int .i64 0, .int .i64 0, .int .i64 0, .int .i64 0, .int .i64 0, .int .i64 0, .int .i64 0, .int .i64 0, .int .i64 0, .int .i64 0, .int .i64 0, .int .i64 0, .int .i64 0, .int .i64 0, .int .i64 0, .int .i64 0, .int .i64 0, .int .i64 0, .int .i64 0, .int .i64 0, .int .i64 0, .int .i64 0, .int .i64 0, .int .i64 0, .int .i64 0], fun _ => by kernel_rfl, rfl⟩⟩
instance ar112 : TyAr Try.prog 112 48 3 1 := ⟨Try.underlying112, fun _ => by kernel_rfl⟩
instance : TyBuild Try.prog 112 [.int .i64 0, .int .i64 0, .int .i64 0, .int .i64 0, .int .i64 0, .int .i64 0, .int .i64 0, .int .i64 0, .int .i64 0, .int .i64 0, .int .i64 0, .int .i64 0, .int .i64 0, .int .i64 0, .int .i64 0, .int .i64 0, .int .i64 0, .int .i64 0, .int .i64 0, .int .i64 0, .int .i64 0, .int .i64 0, .int .i64 0, .int .i64 0, .int .i64 0, .int .i64 0, .int .i64 0, .int .i64 0, .int .i64 0, .int .i64 0, .int .i64 0, .int .i64 0, .int .i64 0, .int .i64 0, .int .i64 0, .int .i64 0, .int .i64 0, .int .i64 0, .int .i64 0, .int .i64 0, .int .i64 0, .int .i64 0, .int .i64 0, .int .i64 0, .int .i64 0, .int .i64 0, .int .i64 0, .int .i64 0] (fun i => some (i * 1, 1)) := TyBuild.of_array (zv := .agg #[.int .i64 0, .int .i64 0, .int .i64 0, .int .i64 0, .int .i64 0, .int .i64 0, .int .i64 0, .int .i64 0, .int .i64 0, .int .i64 0, .int .i64 0, .int .i64 0, .int .i64 0, .int .i64 0, .int .i64 0, .int .i64 0, .int .i64 0, .int .i64 0, .int .i64 0, .int .i64 0, .int .i64 0, .int .i64 0, .int .i64 0, .int .i64 0, .int .i64 0, .int .i64 0, .int .i64 0, .int .i64 0, .int .i64 0, .int .i64 0, .int .i64 0, .int .i64 0, .int .i64 0, .int .i64 0, .int .i64 0, .int .i64 0, .int .i64 0, .int .i64 0, .int .i64 0, .int .i64 0, .int .i64 0, .int .i64 0, .int .i64 0, .int .i64 0, .int .i64 0, .int .i64 0, .int .i64 0, .int .i64 0]) (fun _ => by kernel_rfl) rfl ar112
instance : TyVar Try.prog 113 false 1 := ⟨fun _ => by kernel_rfl, fun _ => by kernel_rfl, by simp⟩
instance : TyZero Try.prog 113 [.nils] := ⟨⟨.slice none 0 0, fun _ => by kernel_rfl, rfl⟩⟩
instance : TySl Try.prog 113 112 48 := ⟨Try.underlying113, fun _ => by kernel_rfl⟩
instance : TyVar Try.prog 114 false 1 := ⟨fun _ => by kernel_rfl, fun _ => by kernel_rfl, by simp⟩
instance : TyZero Try.prog 114 [.nilf] := ⟨⟨.nilFunc, fun _ => by kernel_rfl, rfl⟩⟩
instance : TyVar Try.prog 115 false 1 := ⟨fun _ => by kernel_rfl, fun _ => by kernel_rfl, by simp⟩
instance : TyZero Try.prog 115 [.nilf] := ⟨⟨.nilFunc, fun _ => by kernel_rfl, rfl⟩⟩
instance : TyVar Try.prog 116 false 1 := ⟨fun _ => by kernel_rfl, fun _ => by kernel_rfl, by simp⟩
instance : TyZero Try.prog 116 [.nilf] := ⟨⟨.nilFunc, fun _ => by kernel_rfl, rfl⟩⟩
instance : TyVar Try.prog 117 false 1 := ⟨fun _ => by kernel_rfl, fun _ => by kernel_rfl, by simp⟩
instance : TyZero Try.prog 117 [.nilf] := ⟨⟨.nilFunc, fun _ => by kernel_rfl, rfl⟩⟩
instance : TyVar Try.prog 118 false 1 := ⟨fun _ => by kernel_rfl, fun _ => by kernel_rfl, by simp⟩
instance : TyZero Try.prog 118 [.nilf] := ⟨⟨.nilFunc, fun _ => by kernel_rfl, rfl⟩⟩
instance : TyVar Try.prog 119 false 1 := ⟨fun _ => by kernel_rfl, fun _ => by kernel_rfl, by simp⟩
instance : TyZero Try.prog 119 [.nilf] := ⟨⟨.nilFunc, fun _ => by kernel_rfl, rfl⟩⟩
instance : TyVar Try.prog 120 false 1 := ⟨fun _ => by kernel_rfl, fun _ => by kernel_rfl, by simp⟩
instance : TyZero Try.prog 120 [.nilf] := ⟨⟨.nilFunc, fun _ => by kernel_rfl, rfl⟩⟩
instance : TyVar Try.prog 121 false 1 := ⟨fun _ => by kernel_rfl, fun _ => by kernel_rfl, by simp⟩
instance : TyZero Try.prog 121 [.nilf] := ⟨⟨.nilFunc, fun _ => by kernel_rfl, rfl⟩⟩
instance : TyVar Try.prog 122 false 1 := ⟨fun _ => by kernel_rfl, fun _ => by kernel_rfl, by simp⟩
instance : TyZero Try.prog 122 [.nils] := ⟨⟨.slice none 0 0, fun _ => by kernel_rfl, rfl⟩⟩
instance : TySl Try.prog 122 80 2 := ⟨Try.underlying122, fun _ => by kernel_rfl⟩
instance : TyVar Try.prog 123 false 1 := ⟨fun _ => by kernel_rfl, fun _ => by kernel_rfl, by simp⟩
instance : TyZero Try.prog 123 [.nilf] := ⟨⟨.nilFunc, fun _ => by kernel_rfl, rfl⟩⟩
instance : TyVar Try.prog 124 false 1 := ⟨fun _ => by kernel_rfl, fun _ => by kernel_rfl, by simp⟩
instance : TyZero Try.prog 124 [.nilf] := ⟨⟨.nilFunc, fun _ => by kernel_rfl, rfl⟩⟩
instance : TyVar Try.prog 125 false 1 := ⟨fun _ => by kernel_rfl, fun _ => by kernel_rfl, by simp⟩
instance : TyZero Try.prog 125 [.nils] := ⟨⟨.slice none 0 0, fun _ => by kernel_rfl, rfl⟩⟩
instance : TySl Try.prog 125 27 1 := ⟨Try.underlying125, fun _ => by kernel_rfl⟩
instance : TyVar Try.prog 126 false 1 := ⟨fun _ => by kernel_rfl, fun _ => by kernel_rfl, by simp⟩
instance : TyZero Try.prog 126 [.nilf] := ⟨⟨.nilFunc, fun _ => by kernel_rfl, rfl⟩⟩
instance : TyVar Try.prog 127 false 1 := ⟨fun _ => by kernel_rfl, fun _ => by kernel_rfl, by simp⟩
instance : TyZero Try.prog 127 [.nilf] := ⟨⟨.nilFunc, fun _ => by kernel_rfl, rfl⟩⟩
instance : TyVar Try.prog 134 false 1 := ⟨fun _ => by kernel_rfl, fun _ => by kernel_rfl, by simp⟩
instance : TyZero Try.prog 134 [.nilf] := ⟨⟨.nilFunc, fun _ => by kernel_rfl, rfl⟩⟩
instance : TyVar Try.prog 135 false 1 := ⟨fun _ => by kernel_rfl, fun _ => by kernel_rfl, by simp⟩
instance : TyZero Try.prog 135 [.int .u32 0] := ⟨⟨.int .u32 0, fun _ => by kernel_rfl, rfl⟩⟩
instance : TyInt Try.prog 135 .u32 := ⟨Try.underlying135⟩
instance : TyVar Try.prog 139 false 1 := ⟨fun _ => by kernel_rfl, fun _ => by kernel_rfl, by simp⟩
instance : TyZero Try.prog 139 [.nilp] := ⟨⟨.pointer none, fun _ => by kernel_rfl, rfl⟩⟩
instance : TyBool Try.prog 4 := ⟨Try.underlying4⟩
instance : TyElem Try.prog 46 1 := ⟨⟨.slice none 0 0, fun _ => by kernel_rfl, rfl⟩, ⟨(Try.prog.info? 46).getD default, fun _ => by kernel_rfl, Nat.le_of_ble_eq_true (by kernel_rfl)⟩⟩
instance : TyMake Try.prog 22 46 [.nils] := ⟨Try.underlying22, ⟨.slice none 0 0, fun _ => by kernel_rfl, rfl, fun _ => by kernel_rfl⟩, ⟨(Try.prog.info? 46).getD default, fun _ => by kernel_rfl, Nat.le_of_ble_eq_true (by kernel_rfl)⟩⟩
instance : TyElem Try.prog 3 1 := ⟨⟨.int .i64 0, fun _ => by kernel_rfl, rfl⟩, ⟨(Try.prog.info? 3).getD default, fun _ => by kernel_rfl, Nat.le_of_ble_eq_true (by kernel_rfl)⟩⟩
instance : TyMake Try.prog 27 3 [.int .i64 0] := ⟨Try.underlying27, ⟨.int .i64 0, fun _ => by kernel_rfl, rfl, fun _ => by kernel_rfl⟩, ⟨(Try.prog.info? 3).getD default, fun _ => by kernel_rfl, Nat.le_of_ble_eq_true (by kernel_rfl)⟩⟩
instance eq43 : TyEq Try.prog 43 [.i64, .i64, .i64, .i64] := ⟨by kernel_rfl, by kernel_rfl, by kernel_rfl⟩
instance eq44 : TyEq Try.prog 44 [.i64, .i64, .i64, .i64] := ⟨by kernel_rfl, by kernel_rfl, by kernel_rfl⟩
instance : TyElem Try.prog 44 4 := ⟨⟨.agg #[.int .i64 0, .int .i64 0, .int .i64 0, .int .i64 0], fun _ => by kernel_rfl, rfl⟩, ⟨(Try.prog.info? 44).getD default, fun _ => by kernel_rfl, Nat.le_of_ble_eq_true (by kernel_rfl)⟩⟩
instance : TyMake Try.prog 46 44 [.int .i64 0, .int .i64 0, .int .i64 0, .int .i64 0] := ⟨Try.underlying46, ⟨.agg #[.int .i64 0, .int .i64 0, .int .i64 0, .int .i64 0], fun _ => by kernel_rfl, rfl, fun _ => by kernel_rfl⟩, ⟨(Try.prog.info? 44).getD default, fun _ => by kernel_rfl, Nat.le_of_ble_eq_true (by kernel_rfl)⟩⟩
instance : TyElem Try.prog 5 1 := ⟨⟨.int .u8 0, fun _ => by kernel_rfl, rfl⟩, ⟨(Try.prog.info? 5).getD default, fun _ => by kernel_rfl, Nat.le_of_ble_eq_true (by kernel_rfl)⟩⟩
instance : TyMake Try.prog 58 5 [.int .u8 0] := ⟨Try.underlying58, ⟨.int .u8 0, fun _ => by kernel_rfl, rfl, fun _ => by kernel_rfl⟩, ⟨(Try.prog.info? 5).getD default, fun _ => by kernel_rfl, Nat.le_of_ble_eq_true (by kernel_rfl)⟩⟩
instance eq60 : TyEq Try.prog 60 [.u8, .u8, .u8, .u8] := ⟨by kernel_rfl, by kernel_rfl, by kernel_rfl⟩
instance eq79 : TyEq Try.prog 79 [.i64, .i64] := ⟨by kernel_rfl, by kernel_rfl, by kernel_rfl⟩
instance eq80 : TyEq Try.prog 80 [.i64, .i64] := ⟨by kernel_rfl, by kernel_rfl, by kernel_rfl⟩
instance : TyMap Try.prog 82 80 3 := ⟨Try.underlying82⟩
instance : TyElem Try.prog 113 1 := ⟨⟨.slice none 0 0, fun _ => by kernel_rfl, rfl⟩, ⟨(Try.prog.info? 113).getD default, fun _ => by kernel_rfl, Nat.le_of_ble_eq_true (by kernel_rfl)⟩⟩
instance : TyMake Try.prog 108 113 [.nils] := ⟨Try.underlying108, ⟨.slice none 0 0, fun _ => by kernel_rfl, rfl, fun _ => by kernel_rfl⟩, ⟨(Try.prog.info? 113).getD default, fun _ => by kernel_rfl, Nat.le_of_ble_eq_true (by kernel_rfl)⟩⟩
instance : TyElem Try.prog 112 48 := ⟨⟨.agg #[.int .i64 0, .int .i64 0, .int .i64 0, .int .i64 0, .int .i64 0, .int .i64 0, .int .i64 0, .int .i64 0, .int .i64 0, .int .i64 0, .int .i64 0, .int .i64 0, .int .i64 0, .int .i64 0, .int .i64 0, .int .i64 0, .int .i64 0, .int .i64 0, .int .i64 0, .int .i64 0, .int .i64 0, .int .i64 0, .int .i64 0, .int .i64 0, .int .i64 0, .int .i64 0, .int .i64 0, .int .i64 0, .int .i64 0, .int .i64 0, .int .i64 0, .int .i64 0, .int .i64 0, .int .i64 0, .int .i64 0, .int .i64 0, .int .i64 0, .int .i64 0, .int .i64 0, .int .i64 0, .int .i64 0, .int .i64 0, .int .i64 0, .int .i64 0, .int .i64 0, .int .i64 0, .int .i64 0, .int .i64 0], fun _ => by kernel_rfl, rfl⟩, ⟨(Try.prog.info? 112).getD default, fun _ => by kernel_rfl, Nat.le_of_ble_eq_true (by kernel_rfl)⟩⟩
instance : TyMake Try.prog 113 112 [.int .i64 0, .int .i64 0, .int .i64 0, .int .i64 0, .int .i64 0, .int .i64 0, .int .i64 0, .int .i64 0, .int .i64 0, .int .i64 0, .int .i64 0, .int .i64 0, .int .i64 0, .int .i64 0, .int .i64 0, .int .i64 0, .int .i64 0, .int .i64 0, .int .i64 0, .int .i64 0, .int .i64 0, .int .i64 0, .int .i64 0, .int .i64 0, .int .i64 0, .int .i64 0, .int .i64 0, .int .i64 0, .int .i64 0, .int .i64 0, .int .i64 0, .int .i64 0, .int .i64 0, .int .i64 0, .int .i64 0, .int .i64 0, .int .i64 0, .int .i64 0, .int .i64 0, .int .i64 0, .int .i64 0, .int .i64 0, .int .i64 0, .int .i64 0, .int .i64 0, .int .i64 0, .int .i64 0, .int .i64 0] := ⟨Try.underlying113, ⟨.agg #[.int .i64 0, .int .i64 0, .int .i64 0, .int .i64 0, .int .i64 0, .int .i64 0, .int .i64 0, .int .i64 0, .int .i64 0, .int .i64 0, .int .i64 0, .int .i64 0, .int .i64 0, .int .i64 0, .int .i64 0, .int .i64 0, .int .i64 0, .int .i64 0, .int .i64 0, .int .i64 0, .int .i64 0, .int .i64 0, .int .i64 0, .int .i64 0, .int .i64 0, .int .i64 0, .int .i64 0, .int .i64 0, .int .i64 0, .int .i64 0, .int .i64 0, .int .i64 0, .int .i64 0, .int .i64 0, .int .i64 0, .int .i64 0, .int .i64 0, .int .i64 0, .int .i64 0, .int .i64 0, .int .i64 0, .int .i64 0, .int .i64 0, .int .i64 0, .int .i64 0, .int .i64 0, .int .i64 0, .int .i64 0], fun _ => by kernel_rfl, rfl, fun _ => by kernel_rfl⟩, ⟨(Try.prog.info? 112).getD default, fun _ => by kernel_rfl, Nat.le_of_ble_eq_true (by kernel_rfl)⟩⟩
instance : TyElem Try.prog 80 2 := ⟨⟨.agg #[.int .i64 0, .int .i64 0], fun _ => by kernel_rfl, rfl⟩, ⟨(Try.prog.info? 80).getD default, fun _ => by kernel_rfl, Nat.le_of_ble_eq_true (by kernel_rfl)⟩⟩
instance : TyMake Try.prog 122 80 [.int .i64 0, .int .i64 0] := ⟨Try.underlying122, ⟨.agg #[.int .i64 0, .int .i64 0], fun _ => by kernel_rfl, rfl, fun _ => by kernel_rfl⟩, ⟨(Try.prog.info? 80).getD default, fun _ => by kernel_rfl, Nat.le_of_ble_eq_true (by kernel_rfl)⟩⟩
instance : TyElem Try.prog 27 1 := ⟨⟨.slice none 0 0, fun _ => by kernel_rfl, rfl⟩, ⟨(Try.prog.info? 27).getD default, fun _ => by kernel_rfl, Nat.le_of_ble_eq_true (by kernel_rfl)⟩⟩
instance : TyMake Try.prog 125 27 [.nils] := ⟨Try.underlying125, ⟨.slice none 0 0, fun _ => by kernel_rfl, rfl, fun _ => by kernel_rfl⟩, ⟨(Try.prog.info? 27).getD default, fun _ => by kernel_rfl, Nat.le_of_ble_eq_true (by kernel_rfl)⟩⟩
instance : TyKey Try.prog 80 (okFlat [.i64, .i64]) := TyKey.of_flat eq80
instance : FnOk Try.prog 3 := ⟨fun _ _ => by kernel_rfl⟩
instance : FnOk Try.prog 4 := ⟨fun _ _ => by kernel_rfl⟩
instance : FnOk Try.prog 5 := ⟨fun _ _ => by kernel_rfl⟩
instance : FnOk Try.prog 6 := ⟨fun _ _ => by kernel_rfl⟩
instance : FnOk Try.prog 7 := ⟨fun _ _ => by kernel_rfl⟩
instance : FnOk Try.prog 8 := ⟨fun _ _ => by kernel_rfl⟩
instance : FnOk Try.prog 9 := ⟨fun _ _ => by kernel_rfl⟩
instance : FnOk Try.prog 10 := ⟨fun _ _ => by kernel_rfl⟩
instance : FnOk Try.prog 11 := ⟨fun _ _ => by kernel_rfl⟩
instance : FnOk Try.prog 12 := ⟨fun _ _ => by kernel_rfl⟩
instance : FnOk Try.prog 13 := ⟨fun _ _ => by kernel_rfl⟩
instance : FnOk Try.prog 14 := ⟨fun _ _ => by kernel_rfl⟩
instance : FnOk Try.prog 15 := ⟨fun _ _ => by kernel_rfl⟩
instance : FnOk Try.prog 16 := ⟨fun _ _ => by kernel_rfl⟩
instance : FnOk Try.prog 17 := ⟨fun _ _ => by kernel_rfl⟩
instance : FnOk Try.prog 18 := ⟨fun _ _ => by kernel_rfl⟩
instance : FnOk Try.prog 19 := ⟨fun _ _ => by kernel_rfl⟩
instance : FnOk Try.prog 20 := ⟨fun _ _ => by kernel_rfl⟩
instance : FnOk Try.prog 21 := ⟨fun _ _ => by kernel_rfl⟩
instance : FnOk Try.prog 22 := ⟨fun _ _ => by kernel_rfl⟩
instance : FnOk Try.prog 23 := ⟨fun _ _ => by kernel_rfl⟩
instance : FnOk Try.prog 24 := ⟨fun _ _ => by kernel_rfl⟩
instance : FnOk Try.prog 25 := ⟨fun _ _ => by kernel_rfl⟩
instance : FnOk Try.prog 26 := ⟨fun _ _ => by kernel_rfl⟩
instance : FnOk Try.prog 27 := ⟨fun _ _ => by kernel_rfl⟩
instance : FnOk Try.prog 28 := ⟨fun _ _ => by kernel_rfl⟩
instance : FnOk Try.prog 29 := ⟨fun _ _ => by kernel_rfl⟩
instance : FnOk Try.prog 30 := ⟨fun _ _ => by kernel_rfl⟩
instance : FnOk Try.prog 31 := ⟨fun _ _ => by kernel_rfl⟩
instance : FnOk Try.prog 32 := ⟨fun _ _ => by kernel_rfl⟩
instance : FnOk Try.prog 33 := ⟨fun _ _ => by kernel_rfl⟩
instance : FnOk Try.prog 34 := ⟨fun _ _ => by kernel_rfl⟩
instance : FnOk Try.prog 35 := ⟨fun _ _ => by kernel_rfl⟩
instance : FnOk Try.prog 36 := ⟨fun _ _ => by kernel_rfl⟩
instance : FnOk Try.prog 37 := ⟨fun _ _ => by kernel_rfl⟩
instance : FnOk Try.prog 38 := ⟨fun _ _ => by kernel_rfl⟩
instance : FnOk Try.prog 39 := ⟨fun _ _ => by kernel_rfl⟩
instance : FnOk Try.prog 40 := ⟨fun _ _ => by kernel_rfl⟩
instance : FnOk Try.prog 41 := ⟨fun _ _ => by kernel_rfl⟩
instance : FnOk Try.prog 42 := ⟨fun _ _ => by kernel_rfl⟩
instance : FnOk Try.prog 43 := ⟨fun _ _ => by kernel_rfl⟩
instance : FnOk Try.prog 44 := ⟨fun _ _ => by kernel_rfl⟩
instance : FnOk Try.prog 45 := ⟨fun _ _ => by kernel_rfl⟩
instance : FnOk Try.prog 46 := ⟨fun _ _ => by kernel_rfl⟩
instance : FnOk Try.prog 47 := ⟨fun _ _ => by kernel_rfl⟩
instance : FnOk Try.prog 48 := ⟨fun _ _ => by kernel_rfl⟩
instance : FnOk Try.prog 49 := ⟨fun _ _ => by kernel_rfl⟩
instance : FnOk Try.prog 50 := ⟨fun _ _ => by kernel_rfl⟩
instance : FnOk Try.prog 51 := ⟨fun _ _ => by kernel_rfl⟩
instance : FnOk Try.prog 52 := ⟨fun _ _ => by kernel_rfl⟩
instance : FnOk Try.prog 53 := ⟨fun _ _ => by kernel_rfl⟩
instance : FnOk Try.prog 54 := ⟨fun _ _ => by kernel_rfl⟩
instance : FnOk Try.prog 55 := ⟨fun _ _ => by kernel_rfl⟩
instance : FnOk Try.prog 56 := ⟨fun _ _ => by kernel_rfl⟩
instance : FnOk Try.prog 57 := ⟨fun _ _ => by kernel_rfl⟩
instance : FnOk Try.prog 58 := ⟨fun _ _ => by kernel_rfl⟩
instance : FnOk Try.prog 59 := ⟨fun _ _ => by kernel_rfl⟩
instance : FnOk Try.prog 60 := ⟨fun _ _ => by kernel_rfl⟩
instance : FnOk Try.prog 61 := ⟨fun _ _ => by kernel_rfl⟩
instance : FnOk Try.prog 62 := ⟨fun _ _ => by kernel_rfl⟩
instance : FnOk Try.prog 63 := ⟨fun _ _ => by kernel_rfl⟩
instance : FnOk Try.prog 64 := ⟨fun _ _ => by kernel_rfl⟩
instance : FnOk Try.prog 65 := ⟨fun _ _ => by kernel_rfl⟩
instance : FnOk Try.prog 66 := ⟨fun _ _ => by kernel_rfl⟩
instance : FnOk Try.prog 67 := ⟨fun _ _ => by kernel_rfl⟩
instance : FnOk Try.prog 68 := ⟨fun _ _ => by kernel_rfl⟩
instance : FnOk Try.prog 69 := ⟨fun _ _ => by kernel_rfl⟩
instance : FnOk Try.prog 70 := ⟨fun _ _ => by kernel_rfl⟩
instance : FnOk Try.prog 71 := ⟨fun _ _ => by kernel_rfl⟩
instance : FnOk Try.prog 72 := ⟨fun _ _ => by kernel_rfl⟩
instance : FnOk Try.prog 73 := ⟨fun _ _ => by kernel_rfl⟩
instance : FnOk Try.prog 74 := ⟨fun _ _ => by kernel_rfl⟩
instance : FnOk Try.prog 75 := ⟨fun _ _ => by kernel_rfl⟩
instance : FnOk Try.prog 76 := ⟨fun _ _ => by kernel_rfl⟩
instance : FnOk Try.prog 77 := ⟨fun _ _ => by kernel_rfl⟩
instance : FnOk Try.prog 78 := ⟨fun _ _ => by kernel_rfl⟩
instance : FnOk Try.prog 79 := ⟨fun _ _ => by kernel_rfl⟩
instance : FnOk Try.prog 80 := ⟨fun _ _ => by kernel_rfl⟩
instance : FnOk Try.prog 81 := ⟨fun _ _ => by kernel_rfl⟩
instance : FnOk Try.prog 82 := ⟨fun _ _ => by kernel_rfl⟩
instance : FnOk Try.prog 83 := ⟨fun _ _ => by kernel_rfl⟩
instance : FnOk Try.prog 84 := ⟨fun _ _ => by kernel_rfl⟩
instance : FnOk Try.prog 85 := ⟨fun _ _ => by kernel_rfl⟩
instance : FnOk Try.prog 86 := ⟨fun _ _ => by kernel_rfl⟩
instance : FnOk Try.prog 87 := ⟨fun _ _ => by kernel_rfl⟩
instance : FnOk Try.prog 88 := ⟨fun _ _ => by kernel_rfl⟩
instance : FnOk Try.prog 89 := ⟨fun _ _ => by kernel_rfl⟩
instance : FnOk Try.prog 90 := ⟨fun _ _ => by kernel_rfl⟩
instance : FnOk Try.prog 91 := ⟨fun _ _ => by kernel_rfl⟩
instance : FnOk Try.prog 92 := ⟨fun _ _ => by kernel_rfl⟩
instance : FnOk Try.prog 93 := ⟨fun _ _ => by kernel_rfl⟩
instance : FnOk Try.prog 94 := ⟨fun _ _ => by kernel_rfl⟩
instance : FnOk Try.prog 95 := ⟨fun _ _ => by kernel_rfl⟩
instance : FnOk Try.prog 96 := ⟨fun _ _ => by kernel_rfl⟩
instance : FnOk Try.prog 97 := ⟨fun _ _ => by kernel_rfl⟩
instance : FnOk Try.prog 98 := ⟨fun _ _ => by kernel_rfl⟩
instance : FnOk Try.prog 99 := ⟨fun _ _ => by kernel_rfl⟩
instance : FnOk Try.prog 100 := ⟨fun _ _ => by kernel_rfl⟩
instance : FnOk Try.prog 101 := ⟨fun _ _ => by kernel_rfl⟩
instance : FnOk Try.prog 102 := ⟨fun _ _ => by kernel_rfl⟩
instance : FnOk Try.prog 103 := ⟨fun _ _ => by kernel_rfl⟩
instance : FnOk Try.prog 104 := ⟨fun _ _ => by kernel_rfl⟩
instance : FnOk Try.prog 105 := ⟨fun _ _ => by kernel_rfl⟩
instance : FnOk Try.prog 106 := ⟨fun _ _ => by kernel_rfl⟩
instance : FnOk Try.prog 107 := ⟨fun _ _ => by kernel_rfl⟩
instance : FnOk Try.prog 108 := ⟨fun _ _ => by kernel_rfl⟩
end Go.Proofs.Ythlolelbmhfdbaa
end

section
namespace Go.Proofs.Ythlolelbmhfdbaa
set_option maxRecDepth 20000
open Go.AE
theorem tmodP {a b : Int} (h : 0 ≤ a) : a.tmod b = a % b := Int.tmod_eq_emod_of_nonneg h
abbrev i64 (n : Int) : AV := .int .i64 n
def body (fn : Func) : Code := (fn.body).getD .skip
abbrev intsA (l : List Int) (c : Option Nat) : AV := .ros (l.map i64) l.length c
theorem fnD {f : FuncId} {ca : List AV} (h : dataL ca) : (AV.fn f [] ca).data := by simp only [AV.data, AV.isd, isdL, Bool.true_and]; exact h
def idxI {α : Type} (p : α → Bool) (l : List α) : Int := match l.findIdx? p with
  | some i => i
  | none => -1
theorem idx_hit {α : Type} {p : α → Bool} {l : List α} {k : Nat} (hk : k < l.length) (h : ∀ j (hj : j < l.length), j < k → p l[j] = false) (hp : p l[k] = true) : idxI p l = k := by
  have : l.findIdx? p = some k := List.findIdx?_eq_some_iff_getElem.2 ⟨hk, hp, fun j hj => by simp [h j (by omega) hj]⟩
  simp [idxI, this]
theorem idx_end {α : Type} {p : α → Bool} {l : List α} (h : ∀ j (hj : j < l.length), p l[j] = false) : idxI p l = -1 := by
  have : l.findIdx? p = none := by
    rw [List.findIdx?_eq_none_iff]; intro x hx
    obtain ⟨j, hj, rfl⟩ := List.getElem_of_mem hx; exact h j hj
  simp [idxI, this]
theorem idx_any {α : Type} {p : α → Bool} {l : List α} : decide (0 ≤ idxI p l) = l.any p := by
  cases h : l.findIdx? p with
  | none =>
    have := List.findIdx?_eq_none_iff.1 h
    have : l.any p = false := by rw [List.any_eq_false]; intro x hx; simp [this x hx]
    simp [idxI, h, this]
  | some i =>
    obtain ⟨hi, hp, _⟩ := List.findIdx?_eq_some_iff_getElem.1 h
    have : l.any p = true := List.any_eq_true.2 ⟨l[i], List.getElem_mem hi, hp⟩
    simp [idxI, h, this]
theorem any_true {α : Type} {p : α → Bool} {l : List α} {j : Nat} (hj : j < l.length) (h : p l[j] = true) : l.any p = true := List.any_eq_true.2 ⟨_, List.getElem_mem hj, h⟩
def inL (lo hi : Int) (l : List Int) : Bool := l.all fun n => decide (lo ≤ n) && decide (n ≤ hi)
theorem inL_any (lo hi : Int) (l : List Int) : (!l.any fun n => decide (n < lo) || decide (hi < n)) = inL lo hi l := by
  unfold inL
  induction l with
  | nil => rfl
  | cons a l ih =>
    rw [List.any_cons, List.all_cons, Bool.not_or, ih]
    congr 1
    rw [Bool.eq_iff_iff]; simp <;> omega
theorem list_eq {α : Type} {a b : List α} (hl : a.length = b.length) (h : ∀ j (h1 : j < a.length) (h2 : j < b.length), a[j] = b[j]) : a = b := List.ext_getElem hl h
theorem list_ne {α : Type} {a b : List α} {j : Nat} (h1 : j < a.length) (h2 : j < b.length) (h : a[j] ≠ b[j]) : a ≠ b := by rintro rfl; exact h rfl
structure Bx where
  fr : Int
  wd : Int
  lo : Int
  hi : Int
  deriving DecidableEq
structure Sk where
  h : Int
  z : Int
  ls : List (List Bx)
def bxC (b : Bx) : List AV := [i64 b.fr, i64 b.wd, i64 b.lo, i64 b.hi]
abbrev bxA (b : Bx) : AV := .agg [i64 b.fr, i64 b.wd, i64 b.lo, i64 b.hi]
abbrev boxesL (l : List Bx) : AV := .ros (l.flatMap bxC) l.length none
abbrev landsA (l : List (List Bx)) (c : Option Nat) : AV := .ros (l.map boxesL) l.length c
abbrev boxesA (l : List Bx) (c : Option Nat) : AV := .ros (l.flatMap bxC) l.length c
theorem bxG0 {l : List Bx} {k : Nat} (h : k < l.length) : (l.flatMap bxC)[k * 4]? = some (i64 l[k].fr) := by have := flatGet (f := bxC) (z := 4) (fun _ => rfl) h 0 (by omega); simpa [bxC] using this
theorem bxG1 {l : List Bx} {k : Nat} (h : k < l.length) : (l.flatMap bxC)[k * 4 + 1]? = some (i64 l[k].wd) := by have := flatGet (f := bxC) (z := 4) (fun _ => rfl) h 1 (by omega); simpa [bxC] using this
theorem bxG2 {l : List Bx} {k : Nat} (h : k < l.length) : (l.flatMap bxC)[k * 4 + 1 + 1]? = some (i64 l[k].lo) := by have := flatGet (f := bxC) (z := 4) (fun _ => rfl) h 2 (by omega); simpa [bxC] using this
theorem bxG3 {l : List Bx} {k : Nat} (h : k < l.length) : (l.flatMap bxC)[k * 4 + 1 + 1 + 1]? = some (i64 l[k].hi) := by have := flatGet (f := bxC) (z := 4) (fun _ => rfl) h 3 (by omega); simpa [bxC] using this
theorem out_p (n lo hi : Int) : Pure Try.prog 98 [i64 n, .rop [i64 lo] 0, .rop [i64 hi] 0] (.bool (decide (n < lo) || decide (hi < n))) := by
  refine pure_of_body Try.func98 (c := body Try.f98) J (by simp [Try.ntmps98]) fun w0 Φ0 => ?_
  refine Wsr J J ?_
  refine Rv J J J (U_assign J) J J ?_
  refine Rt J ?_
  refine W_seq J ?_
  refine Wjoin ⟨[(4, .bool ((decide (n < lo)) || (decide (hi < n))))], [], 0, []⟩ ?_ ?_
  · refine W_reg J ?_
    refine Rv J J J (U_move J) J J ?_
    refine Rv J J J (U_load1 J J J) J J ?_
    refine Rv J J J (U_lss J J) J J ?_
    refine Rv J J J (U_move J) J J ?_
    refine Rsplit (t := 8) J (fun hg1 => ?_) (fun hg1 => ?_)
    · rw [hg1]
      have hg1' : n < lo := of_decide_eq_true hg1
      refine Rs J J J J J ?_
      refine Rs J J J J J ?_
      refine Rs J J J J J ?_
      refine Rv J J J (U_pick_t J J) J J ?_
      refine Rv J J J (U_assign J) J J ?_
      refine Re J ?_
      exact joinTo id ⟨eD J J, trivial⟩ trivial J J J J (fun _ _ => J)
    · rw [hg1]
      have hg1' : ¬ (n < lo) := of_decide_eq_false hg1
      refine Rv J J J (U_move J) J J ?_
      refine Rv J J J (U_load1 J J J) J J ?_
      refine Rv J J J (U_gtr J J) J J ?_
      refine Rv J J J (U_pick_f J J) J J ?_
      refine Rv J J J (U_assign J) J J ?_
      refine Re J ?_
      exact joinTo id ⟨eD J J, trivial⟩ trivial J J J J (fun _ _ => J)
  refine thenQ_n ?_
  refine W_ret J ?_
  exact retL (rlT J rl0) J J
theorem idxInt_p {f : FuncId} [FnOk Try.prog f] {ca : List AV} (hca : dataL ca) (p : Int → Bool) (l : List Int) (c : Option Nat) (hl : l.length ≤ 1000000) (hp : ∀ x ∈ l, Pure Try.prog f (i64 x :: ca) (.bool (p x))) : Pure Try.prog 107 [intsA l c, .fn f [] ca] (i64 (idxI p l)) := by
  refine pure_of_body Try.func107 (c := body Try.f107) J (by simp [Try.ntmps107]) fun w0 Φ0 => ?_
  refine Wsr J J ?_
  refine Rv J J J (U_assign J) J J ?_
  refine Rt J ?_
  refine W_seq J ?_
  refine Wsr J J ?_
  refine Rv J J J (U_move J) J J ?_
  refine Rv J J J (U_lenOf J len_ros) J J ?_
  refine Rv J J J (U_move J) J J ?_
  refine Rt J ?_
  refine W_block J ?_
  refine LoopTo (T' := [(0, .ros (l.map i64) l.length c), (1, .fn f [] ca), (7, i64 ((l.length : Nat) : Int)), (8, i64 ((0 : Nat) : Int))]) (H' := []) (n := 0) J (fun mz_ qz_ => ∃ (k : Nat), k ≤ l.length ∧ (∀ j (hj : j < l.length), j < k → p l[j] = false) ∧ mz_ = l.length - k ∧ qz_ = ⟨[(0, .ros (l.map i64) l.length c), (1, .fn f [] ca), (7, i64 ((l.length : Nat) : Int)), (8, i64 ((k : Nat) : Int))], [], 0, []⟩) ⟨0, (by omega), (fun j hj h => absurd h (Nat.not_lt_zero _)), J, J⟩ id ⟨eD J J, eD J (fnD hca), eD J J, eD J J, trivial⟩ trivial J J J J (fun _ _ => J) ?_
  rintro _ _ ⟨k, hi0_0, hi0_1, rfl, rfl⟩
  refine Wsr J J ?_
  refine Rv J J J (U_lss J J) J J ?_
  refine Rt J ?_
  refine W_seq J ?_
  refine WcondP J J (fun hc0 => ?_) (fun hc0 => ?_)
  · have hck : k < l.length := by omega
    refine W_skip J ?_
    refine thenQ_n ?_
    refine W_seq J ?_
    refine W_block J ?_
    refine Wsr J J ?_
    refine Rv J J J (U_move J) J J ?_
    refine Rv J J J (U_assign J) J J ?_
    refine Rt J ?_
    refine Wsr J J ?_
    refine Rv J J J (U_move J) J J ?_
    refine Rv J J J (U_move J) J J ?_
    refine Rv J J J (U_move J) J J ?_
    have hx1 : k < l.length := by omega
    refine Rv J J J (U_indexR (j := k) J J J hx1) J J ?_
    refine Rv J J J (U_load1 J J (getM hx1)) J J ?_
    refine Rv J J J (U_call J J (hp _ (List.getElem_mem hck)) (dataL_cons.2 ⟨J, hca⟩)) J J ?_
    refine Rt J ?_
    refine Wcond J J (fun hc1 => ?_) (fun hc1 => ?_)
    · refine Wsr J J ?_
      refine Rv J J J (U_move J) J J ?_
      refine Rv J J J (U_assign J) J J ?_
      refine Rt J ?_
      refine W_ret J ?_
      refine blkQ_r ?_
      refine thenQ_r ?_
      refine thenQ_r ?_
      refine blkQ_r ?_
      refine thenQ_r ?_
      exact retL (rlT J rl0) (by first | rfl | (simp only [packA]; rw [idx_hit hck hi0_1 hc1]; first | done | rfl) | (simp only [packA]; rw [idx_end fun j hj => hi0_1 j hj (by omega)]; first | done | rfl)) J
    · have hc1' := Bool.eq_false_iff.1 hc1
      refine W_skip J ?_
      refine blkQ_n ?_
      refine thenQ_n ?_
      refine W_reg J ?_
      refine Rv J J J (U_add J J (w64e (m := ((k + 1 : Nat) : Int)) (by omega) (by omega) (by omega))) J J ?_
      refine Rv J J J (U_move J) J J ?_
      refine Rt J ?_
      exact againTo (T' := [(0, .ros (l.map i64) l.length c), (1, .fn f [] ca), (7, i64 ((l.length : Nat) : Int)), (8, i64 (((k + 1) : Nat) : Int))]) (H' := []) (n := 0) (l.length - (k + 1)) ⟨k + 1, (by omega), (by intro j hj h; rcases Nat.lt_succ_iff_lt_or_eq.1 h with h | rfl; exact hi0_1 j hj h; simpa using hc1), J, J⟩ (by omega) id ⟨eD J J, eD J (fnD hca), eD J J, eD J J, trivial⟩ trivial J J J J (fun _ _ => J)
  · refine W_exit J ?_
    refine thenQ_x ?_
    refine thenQ_x ?_
    refine blkQ_x J ?_
    refine thenQ_n ?_
    refine Wsr J J ?_
    refine Rv J J J (U_assign J) J J ?_
    refine Rt J ?_
    refine W_ret J ?_
    exact retL (rlT J rl0) (by first | rfl | (simp only [packA]; rw [idx_hit hck hi0_1 hc1]; first | done | rfl) | (simp only [packA]; rw [idx_end fun j hj => hi0_1 j hj (by omega)]; first | done | rfl)) J
theorem anyInt_p {f : FuncId} [FnOk Try.prog f] {ca : List AV} (hca : dataL ca) (p : Int → Bool) (l : List Int) (c : Option Nat) (hl : l.length ≤ 1000000) (hp : ∀ x ∈ l, Pure Try.prog f (i64 x :: ca) (.bool (p x))) : Pure Try.prog 97 [intsA l c, .fn f [] ca] (.bool (l.any p)) := by
  refine pure_of_body Try.func97 (c := body Try.f97) J (by simp [Try.ntmps97]) fun w0 Φ0 => ?_
  refine Wsr J J ?_
  refine Rv J J J (U_assign J) J J ?_
  refine Rt J ?_
  refine Wsr J J ?_
  refine Rv J J J (U_move J) J J ?_
  refine Rv J J J (U_move J) J J ?_
  refine Rv J J J (U_call J J (idxInt_p hca p l c hl hp) (dataL_cons.2 ⟨J, dataL_cons.2 ⟨fnD hca, J⟩⟩)) J J ?_
  refine Rv J J J (U_geq J J) J J ?_
  refine Rv J J J (U_assign J) J J ?_
  refine Rt J ?_
  refine W_ret J ?_
  exact retL (rlT J rl0) (by first | rfl | (simp only [packA]; rw [← idx_any]; first | done | rfl)) J
theorem within_p (lo hi : Int) (l : List Int) (c : Option Nat) (hl : l.length ≤ 1000000) : Pure Try.prog 64 [i64 lo, i64 hi, intsA l c] (.bool (inL lo hi l)) := by
  refine pure_of_body Try.func64 (c := body Try.f64) J (by simp [Try.ntmps64]) fun w0 Φ0 => ?_
  refine Wsr J J ?_
  refine Rv J J J (U_boxF J J J) J J ?_
  refine Rv J J J (U_boxF J J J) J J ?_
  refine Rv J J J (U_assign J) J J ?_
  refine Rt J ?_
  refine Wsr J J ?_
  refine Rv J J J (U_move J) J J ?_
  refine Rv J J J (U_makeFunc J J) J J ?_
  refine Rv J J J (U_call J J (anyInt_p (f := 98) (ca := [.rop [i64 lo] 0, .rop [i64 hi] 0]) J (fun n => decide (n < lo) || decide (hi < n)) l c hl (fun x _ => out_p x lo hi)) J) J J ?_
  refine Rv J J J (U_not J) J J ?_
  refine Rv J J J (U_assign J) J J ?_
  refine Rt J ?_
  refine W_ret J ?_
  exact retL (rlT J rl0) (by first | rfl | (simp only [packA]; rw [inL_any]; first | done | rfl)) J
end Go.Proofs.Ythlolelbmhfdbaa
end
