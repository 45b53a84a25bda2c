import Derived.Test.YthoodfiacfmhgaaM1
import Derived.IntWalk
import Derived.ChangeKeysEq
import Derived.WideKeyRuns
import Derived.WalkSpells
import Derived.RangeFuncIn
import Derived.RangeFuncLeaves
import Derived.RangeFuncRecord
set_option linter.all false
section
/- Abstract states, tenth part: the greatest and the least of two, slices of slices, append, make, copy, clear, and whether two whole values are equal. -/
namespace Go.AE
open Go.RowKit

theorem w64 {n : Int} (h1 : -9223372036854775808 ≤ n) (h2 : n ≤ 9223372036854775807) : IntKind.i64.wrap n = n := by
  exact Go.IntWalk.i64_in n ⟨h1, h2⟩

section ops
variable {C : Ctx} {T : AT} {H : AH} {nx : Nat} {d : Option Tmp} {ty : TypeId} {pos : String} {after : Array Edge} {g : Option (Nat × Bool)}

theorem U_max {x y : Operand} {k : IntKind} {a b m : Int} {ts : Array TypeId} (hx : ev T x = some (.int k a)) (hy : ev T y = some (.int k b)) (hm : max a b = m) : OpU C ⟨d, .call ⟨.builtin .max, #[x, y], ts⟩, ty, pos, after, g⟩ T H nx (.int k m) [] nx :=
  OpU.of_value (by intro c; simp) fun ρ Φ ac w h2 _ => by
    refine ⟨.int k m, ?_, mk_int⟩
    have : (if b > a then b else a) = m := by rw [← hm]; split <;> omega
    simp [execOp, resolve, invoke, builtin, Builtin.max_, con_int (ev_con h2 hx), con_int (ev_con h2 hy), Builtin.max2, this]
theorem U_min {x y : Operand} {k : IntKind} {a b m : Int} {ts : Array TypeId} (hx : ev T x = some (.int k a)) (hy : ev T y = some (.int k b)) (hm : min a b = m) : OpU C ⟨d, .call ⟨.builtin .min, #[x, y], ts⟩, ty, pos, after, g⟩ T H nx (.int k m) [] nx :=
  OpU.of_value (by intro c; simp) fun ρ Φ ac w h2 _ => by
    refine ⟨.int k m, ?_, mk_int⟩
    have : (if b < a then b else a) = m := by rw [← hm]; split <;> omega
    simp [execOp, resolve, invoke, builtin, Builtin.min_, con_int (ev_con h2 hx), con_int (ev_con h2 hy), Builtin.min2, this]

/-! ### Slices of slices -/
/-- The cells that a slice shows. -/
def srcS (z : Nat) (H : AH) : AV → Option (List AV × Nat)
  | .nils => some ([], 0)
  | .slice b o n _ => match gt H b with
    | some (.cells cs _) => if o + n * z ≤ cs.length then some ((cs.drop o).take (n * z), n) else none
    | _ => none
  | .sliceo b o n _ => match gt H b with
    | some (.cells cs _) => if o + n * z ≤ cs.length then some ((cs.drop o).take (n * z), n) else none
    | _ => none
  | .ros cs n _ => if n * z ≤ cs.length then some (cs.take (n * z), n) else none
  | _ => none
theorem srcS_con {Wr : Nat → Prop} {w0 w : World} {P : Program} {ρ : Env} {Φ : Fz} {H : AH} (hm : Mem Wr w0 ρ Φ (gt H) w) {z n : Nat} {v : AV} {cs : List AV} {x : Value} (hs : srcS z H v = some (cs, n)) (h : Con ρ Φ w v x) :
    ∃ ad k xs, x = .slice ad n k ∧ (∀ dr, (Builtin.firstCells z n x).run P { w with drawn := dr } = .ok xs.toArray { w with drawn := dr }) ∧ ConL ρ Φ w cs xs := by
  have key : ∀ (r base o : Nat) (cs0 : List AV) (xs0 : List Value) (k : Nat), ConL ρ Φ w cs0 xs0 → At w r base xs0 → o + n * z ≤ cs0.length → x = .slice (some ⟨r, base + o, none⟩) n k → cs = (cs0.drop o).take (n * z) →
      ∃ ad k xs, x = .slice ad n k ∧ (∀ dr, (Builtin.firstCells z n x).run P { w with drawn := dr } = .ok xs.toArray { w with drawn := dr }) ∧ ConL ρ Φ w cs xs := by
    intro r base o cs0 xs0 k h1 h2 h3 h4 h5
    have hlen := conL_len h1
    refine ⟨_, k, (xs0.drop o).take (n * z), h4, fun dr => ?_, h5 ▸ conL_take _ (conL_drop o h1)⟩
    have h2' : At { w with drawn := dr } r base xs0 := fun i v hi => h2 i v hi
    have := run_loadCells (P := P) h2' o (n * z) 0 #[] (by omega)
    rw [h4]
    simp only [Builtin.firstCells, loadCells, this]; simp
  unfold srcS at hs
  split at hs
  · cases hs; simp only [Con] at h; subst h
    exact ⟨none, 0, [], rfl, fun _ => rfl, conL_nil⟩
  · split at hs
    · rename_i b o m c cs0 t hg
      split at hs
      · rename_i hl
        cases hs
        simp only [Con] at h
        obtain ⟨y, h1, h2⟩ := h
        obtain ⟨y', ob, e1, e2, pre, xs, rest, e3, e4, e5, rfl⟩ := hm.at_ _ _ hg
        rw [h1] at e1; cases e1
        exact key y.1 y.2.1 _ cs0 xs _ e3 (e4 ▸ at_of_cells e2) hl h2 rfl
      · cases hs
    · cases hs
  · split at hs
    · rename_i b o m zz cs0 t hg
      split at hs
      · rename_i hl
        cases hs
        simp only [Con] at h
        obtain ⟨y, k, h1, _, _, h2⟩ := h
        obtain ⟨y', ob, e1, e2, pre, xs, rest, e3, e4, e5, rfl⟩ := hm.at_ _ _ hg
        rw [h1] at e1; cases e1
        exact key y.1 y.2.1 _ cs0 xs k e3 (e4 ▸ at_of_cells e2) hl h2 rfl
      · cases hs
    · cases hs
  · split at hs
    · rename_i cs0 m c hl
      cases hs
      simp only [Con] at h
      rcases h with ⟨rfl, ⟨p, rfl⟩, _⟩ | ⟨r, base, xs, k, _, h2, _, _, h5, h6, _⟩
      · exact ⟨p, 0, [], rfl, fun _ => by cases p <;> simp [Builtin.firstCells, loadCells, loadCellsFrom], by simp only [Nat.zero_mul, List.take_zero]; exact conL_nil⟩
      · exact key r base 0 cs0 xs k h5 h6 (by omega) h2 (by simp)
    · cases hs
  · cases hs

/-! ### append -/
def capOf : AV → Option Nat
  | .nils => some 0
  | .slice _ _ _ c => some c
  | .ros _ _ (some c) => some c
  | _ => none
theorem capOf_con {ρ : Env} {Φ : Fz} {w : World} {v : AV} {c : Nat} {x : Value} (hc : capOf v = some c) (h : Con ρ Φ w v x) : ∃ a n, x = .slice a n c := by
  unfold capOf at hc
  split at hc
  · cases hc; simp only [Con] at h; exact ⟨_, _, h⟩
  · cases hc; simp only [Con] at h; obtain ⟨y, _, h⟩ := h; exact ⟨_, _, h⟩
  · cases hc; simp only [Con] at h; rcases h with ⟨_, ⟨_, h⟩, h4⟩ | ⟨r, base, xs, k, _, h2, _, h4, _⟩; rw [← h4 _ rfl]; exact ⟨_, _, h⟩; rw [h4 _ rfl] at h2; exact ⟨_, _, h2⟩
  · cases hc
theorem Post.undraw {Wr : Nat → Prop} {w0 w w' : World} {ρ ρ' : Env} {Φ Φ' : Fz} {nx nx' : Nat} {l : List Nat} {G' : Nat → Option ABlk} {dr : Nat} (h : Post Wr w0 ρ Φ { w with drawn := dr } nx nx' l G' ρ' Φ' w') : Post Wr w0 ρ Φ w nx nx' l G' ρ' Φ' w' :=
  ⟨h.le, h.dom, h.fle, h.fnew, ⟨h.keep.os, h.keep.tape, h.keep.output, h.keep.size, h.keep.block⟩, h.stab, h.bnew, h.mem, h.dk⟩
theorem growBy_le (n : Nat) : ∀ r c, Builtin.growBy n r c ≤ max c (n + (n + 768) / 4)
  | 0, c => by simp [Builtin.growBy]; omega
  | r + 1, c => by
    unfold Builtin.growBy
    split
    · omega
    · have := growBy_le n r (c + (c + 768) / 4); omega
theorem nextcap_le {n c : Nat} (h : c < n) : Builtin.nextslicecap n c ≤ 2 * n + 1000 := by
  unfold Builtin.nextslicecap
  split
  · omega
  · split
    · omega
    · have := growBy_le n 4 c; omega

/-- append that makes new memory. -/
theorem run_grow {P : Program} {w : World} {sT xT e z e' z' n m c : Nat} {s x : Value} {olds news : List Value} {zv : Value} {rt : TypeId} [hT : TySl P sT e z] [hX : TySl P xT e' z'] (hz : ∀ w, (zeroValue e).run P w = .ok zv w) (hzl : zv.cells.size = z) {i : TypeInfo} (hi : ∀ w, (typeInfo e).run P w = .ok i w) (hb : i.bytes ≤ 100000)
    {ad ad' : Option Addr} {k' : Nat} (hs : s = .slice ad n c) (hx : x = .slice ad' m k') (ho : ∀ dr, (Builtin.firstCells z n s).run P { w with drawn := dr } = .ok olds.toArray { w with drawn := dr }) (hn : ∀ dr, (Builtin.firstCells z m x).run P { w with drawn := dr } = .ok news.toArray { w with drawn := dr }) (hgrow : c < n + m) (hlim : n + m ≤ 1000000) (hol : olds.length = n * z) (hnl : news.length = m * z) :
    ∃ cap dr rest, n + m ≤ cap ∧ (olds ++ news ++ rest).length = cap * z ∧ (Builtin.append_ #[sT, xT] rt #[s, x]).run P w = .ok (.slice (some ⟨w.heap.size, 0, none⟩) (n + m) cap) ({ w with drawn := dr }.alloc (.cells (olds ++ news ++ rest).toArray e)) := by
  have hnb : Builtin.nextslicecap (n + m) c * i.bytes ≤ 2 ^ 48 := by
    have := nextcap_le hgrow
    calc _ ≤ (2 * (n + m) + 1000) * 100000 := Nat.mul_le_mul this hb
      _ ≤ _ := by omega
  refine ⟨(n + m) + w.tape w.drawn (.appendCap (n + m) c e) % (2 ^ 63 - (n + m)), w.drawn + 1, (Builtin.zeroCells zv.cells (w.tape w.drawn (.appendCap (n + m) c e) % (2 ^ 63 - (n + m)))).toList, by omega, ?_, ?_⟩
  · simp only [Builtin.zeroCells, List.length_append, hol, hnl, Array.length_toList, Array.size_map, Array.size_range, hzl, Nat.add_mul]
  · subst hs; subst hx
    have h1 := ho (w.drawn + 1)
    have h2 := hn (w.drawn + 1)
    unfold Builtin.append_
    simp only [List.getElem?_toArray, List.getElem?_cons_zero, List.getElem?_cons_succ, Sem.run_bind, run_underlying hT.un, run_underlying hX.un, Result.andThen_ok, Sem.run_pure, hT.size, Bool.false_eq_true, if_false, Builtin.lenOf, show ¬ n + m ≤ c by omega]
    have hmx : ¬ (((n + m : Nat) : Int) > IntKind.i64.max) := by
      simp [IntKind.max, IntKind.bits, IntKind.signed]; omega
    have hnb' : ¬ Builtin.nextslicecap (n + m) c * i.bytes > 2 ^ 48 := by omega
    simp only [hmx, false_and, if_false, hi, Result.andThen_ok, hnb', run_choose, Question.forced, Question.cut, Bool.false_eq_true, run_askRoom, h1, h2, Bool.not_false, if_true, hz, newRow, Sem.run_bind, run_newObj_alloc, Sem.run_pure]
    rw [Nat.add_sub_cancel_left]
    congr 2
    congr 1
    apply Array.ext'; simp


theorem srcS_len {z : Nat} {H : AH} {v : AV} {cs : List AV} {n : Nat} (h : srcS z H v = some (cs, n)) : cs.length = n * z := by
  unfold srcS at h
  split at h
  · cases h; simp
  · split at h
    · split at h
      · cases h; simp; omega
      · cases h
    · cases h
  · split at h
    · split at h
      · cases h; simp; omega
      · cases h
    · cases h
  · split at h
    · cases h; simp; omega
    · cases h
  · cases h
class TyElem (P : Program) (e : TypeId) (z : outParam Nat) : Prop where
  zero : ∃ v, (∀ w, (zeroValue e).run P w = .ok v w) ∧ v.cells.size = z
  bytes : ∃ i, (∀ w, (typeInfo e).run P w = .ok i w) ∧ i.bytes ≤ 100000

/-- append that makes new memory. -/
theorem U_appendGrow {sT xT e e' z n m c : Nat} {x y : Operand} {s v : AV} {olds news : List AV} [hT : TySl C.P sT e z] [hX : TySl C.P xT e' z] [hE : TyElem C.P e z] (hx : ev T x = some s) (hy : ev T y = some v) (h1 : srcS z H s = some (olds, n)) (h2 : srcS z H v = some (news, m)) (hc : capOf s = some c) (hgrow : c < n + m) (hlim : n + m ≤ 1000000) :
    OpU C ⟨d, .call ⟨.builtin .append, #[x, y], #[sT, xT]⟩, ty, pos, after, g⟩ T H nx (.sliceo nx 0 (n + m) z) [(nx, some (.cells (olds ++ news) e))] (nx + 1) :=
  OpU.of_run (by intro c; simp) fun ρ Φ a w hf h3 h4 => by
    obtain ⟨ad, k, xs, e1, e2, e3⟩ := srcS_con (P := C.P) h4 h1 (ev_con h3 hx)
    obtain ⟨ad', k', ys, e4, e5, e6⟩ := srcS_con (P := C.P) h4 h2 (ev_con h3 hy)
    obtain ⟨ad'', n', e7⟩ := capOf_con hc (ev_con h3 hx)
    have hkc : k = c := by rw [e1] at e7; cases e7; rfl
    subst hkc
    obtain ⟨zv, hz1, hz2⟩ := hE.zero
    obtain ⟨i, hi1, hi2⟩ := hE.bytes
    have hl1 := conL_len e3; have hl2 := conL_len e6
    obtain ⟨cap, dr, rest, r1, r2, r3⟩ := run_grow (P := C.P) (w := w) (sT := sT) (xT := xT) (rt := ty) hz1 hz2 hi1 hi2 e1 e4 e2 e5 hgrow hlim (by rw [hl1, srcS_len h1]) (by rw [hl2, srcS_len h2])
    have hcc : ConL ρ Φ w (olds ++ news) (xs ++ ys) := conL_append e3 e6
    have hp := Post.new (h4.drewn dr) (nx := nx) (hf nx (Nat.le_refl _) (Nat.lt_succ_self _)) (k := .cells (olds ++ news) e) (o := .cells (xs ++ ys ++ rest).toArray e) 0 (cap * z)
      ⟨[], xs ++ ys, rest, ConL.mono (w := w) (w' := { w with drawn := dr }) ρ.le_refl Φ.le_refl (fun _ _ => rfl) _ hcc, rfl, by rw [← r2]; simp [Nat.add_assoc], by simp⟩
    refine ⟨ρ.upd nx (w.heap.size, 0, cap * z), Φ, .slice (some ⟨w.heap.size, 0, none⟩) (n + m) cap, { w with drawn := dr }.alloc (.cells (xs ++ ys ++ rest).toArray e), .inl ?_, ?_, ?_⟩
    · show (execOp a.eval _).run C.P w = .ok (.value (.slice (some ⟨w.heap.size, 0, none⟩) (n + m) cap)) ({ w with drawn := dr }.alloc (.cells (xs ++ ys ++ rest).toArray e))
      simp only [execOp, resolve, Sem.run_bind, Sem.run_pure, Result.andThen_ok, invoke, builtin]
      simp [r3]
    · rw [List.cons_append, List.nil_append, gt_upG]
      exact hp.undraw.more (by simp)
    · simp only [Con]; exact ⟨_, cap, Env.upd_same _ _ _, r1, by simp, rfl⟩

theorem setC_app {α : Type} : ∀ (c a b : List α), c.length ≤ b.length → setC (a ++ b) a.length c = a ++ c ++ b.drop c.length
  | [], a, b, _ => by simp [setC]
  | v :: c, a, [], h => by simp at h
  | v :: c, a, u :: b, h => by
    have h2 : (a ++ u :: b).set a.length v = (a ++ [v]) ++ b := by simp
    have := setC_app c (a ++ [v]) b (by simpa using h)
    rw [setC, h2]
    simpa using this
theorem Post.less {Wr : Nat → Prop} {w0 w w' : World} {ρ ρ' : Env} {Φ Φ' : Fz} {nx nx' : Nat} {l : List Nat} {G G' : Nat → Option ABlk} (h : Post Wr w0 ρ Φ w nx nx' l G ρ' Φ' w') (hs : ∀ b k, G' b = some k → G b = some k) : Post Wr w0 ρ Φ w nx nx' l G' ρ' Φ' w' :=
  ⟨h.le, h.dom, h.fle, h.fnew, h.keep, h.stab, fun b x h0 => h.bnew b x (fun e => h0 (by cases e2 : G' b with | none => rfl | some k => rw [hs b k e2] at e; cases e)), h.mem.less hs, h.dk⟩
theorem run_room {P : Program} {w w' : World} {sT xT e z e' z' n m k r q : Nat} {s x : Value} {news : List Value} {rt : TypeId} [hT : TySl P sT e z] [hX : TySl P xT e' z'] {ad' : Option Addr} {k' : Nat} (hs : s = .slice (some ⟨r, q, none⟩) n k) (hx : x = .slice ad' m k')
    (hn : (Builtin.firstCells z m x).run P w = .ok news.toArray w) (hroom : n + m ≤ k) (hst : (storeCells ⟨r, q + n * z, none⟩ news).run P w = .ok () w') :
    (Builtin.append_ #[sT, xT] rt #[s, x]).run P w = .ok (.slice (some ⟨r, q, none⟩) (n + m) k) w' := by
  subst hs; subst hx
  unfold Builtin.append_
  simp only [List.getElem?_toArray, List.getElem?_cons_zero, List.getElem?_cons_succ, Sem.run_bind, run_underlying hT.un, run_underlying hX.un, Result.andThen_ok, Sem.run_pure, hT.size, Bool.false_eq_true, if_false, Builtin.lenOf, hroom, if_true, Bool.not_false, hn, add_at, hst]
/-- append onto a slice of unknown room. -/
theorem U_appendOpen {sT xT e e' z n m b o : Nat} {x y : Operand} {v : AV} {cs cs' news : List AV} [hT : TySl C.P sT e z] [hX : TySl C.P xT e' z] [hE : TyElem C.P e z] (hx : ev T x = some (.sliceo b o n z)) (hy : ev T y = some v) (hg : gt H b = some (.cells cs e)) (hl : cs.length = o + n * z) (h2 : srcS z H v = some (news, m))
    (h1 : news.all AV.one = true) (hlim : n + m ≤ 1000000) (hc : cs.drop o ++ news = cs') :
    OpU C ⟨d, .call ⟨.builtin .append, #[x, y], #[sT, xT]⟩, ty, pos, after, g⟩ T H nx (.sliceo nx 0 (n + m) z) [(nx, some (.cells cs' e)), (b, none)] (nx + 1) :=
  OpU.of_run (by intro c; simp) fun ρ Φ a w hf h3 h4 => by
    subst hc
    have hs : srcS z H (.sliceo b o n z) = some (cs.drop o, n) := by
      simp only [srcS, hg, hl, Nat.le_refl, if_true]
      rw [List.take_of_length_le (by simp [hl])]
    obtain ⟨ad, k, xs0, e1, e2, e3⟩ := srcS_con (P := C.P) h4 hs (ev_con h3 hx)
    obtain ⟨ad', k', ys, e4, e5, e6⟩ := srcS_con (P := C.P) h4 h2 (ev_con h3 hy)
    have hl2 := conL_len e6; have hn2 := srcS_len h2
    have hcx := ev_con h3 hx
    simp only [Con] at hcx
    obtain ⟨yy, k1, f1, f2, f3, f4⟩ := hcx
    rw [e1] at f4; cases f4
    obtain ⟨yy', ob, f5, f6, pre, xs, rest, f7, f8, f9, rfl⟩ := h4.at_ _ _ hg
    rw [f1] at f5; cases f5
    have hlx := conL_len f7
    by_cases hroom : n + m ≤ k
    · -- in place
      have hmr : m * z ≤ rest.length := by
        have : (n + m) * z ≤ k * z := Nat.mul_le_mul_right z hroom
        rw [Nat.add_mul] at this; omega
      have f6' : w.heap[yy.1]? = some (.cells (pre ++ (xs ++ rest) ++ []).toArray e (0, 0)) := by simpa using f6
      obtain ⟨w', hw1, hw2⟩ := run_storeCells (P := C.P) (pre := pre) (rest := []) (t := e) (r := yy.1) (o + n * z) ys (xs ++ rest) 0 w f6' (by simp; omega) (conL_one e6 (by simpa using h1))
      have hset : setC (xs ++ rest) (o + n * z + 0) ys = xs ++ ys ++ rest.drop ys.length := by
        have := setC_app ys xs rest (by omega)
        rw [← this]; congr 1; omega
      rw [hset] at hw2
      have hp := Post.rename h4 (nx := nx) (hf nx (Nat.le_refl _) (Nat.lt_succ_self _)) (k' := .cells (cs.drop o ++ news) e) (y := (yy.1, yy.2.1 + o, (xs.drop o ++ ys).length + (rest.drop ys.length).length)) hg f1 rfl hw2
        ⟨pre ++ xs.take o, xs.drop o ++ ys, rest.drop ys.length, conL_append (conL_drop o f7) e6, by simp [f8]; omega, rfl, by
          congr 1; rw [List.append_nil]; have := List.take_append_drop o xs; simp only [List.append_assoc]; rw [← List.append_assoc (xs.take o) (xs.drop o), this]⟩
      refine ⟨ρ.upd nx (yy.1, yy.2.1 + o, (xs.drop o ++ ys).length + (rest.drop ys.length).length), Φ, .slice (some ⟨yy.1, yy.2.1 + o, none⟩) (n + m) k, w', .inl ?_, ?_, ?_⟩
      · have hst : (storeCells (⟨yy.1, yy.2.1 + o + n * z, none⟩ : Addr) ys).run C.P w = .ok () w' := by
          rw [← f8]; simpa [Nat.add_assoc] using hw1
        have r3 := run_room (P := C.P) (w := w) (sT := sT) (xT := xT) (rt := ty) e1 e4 (e5 w.drawn) hroom hst
        simp only [execOp, resolve, Sem.run_bind, Sem.run_pure, Result.andThen_ok, invoke, builtin]
        simp [r3]
      · rw [List.cons_append, List.cons_append, List.nil_append, gt_upG, gt_upG]
        exact hp.more (by simp)
      · simp only [Con]
        refine ⟨_, k, Env.upd_same _ _ _, hroom, ?_, rfl⟩
        simp only [List.length_append, List.length_drop]
        omega
    · obtain ⟨zv, hz1, hz2⟩ := hE.zero
      obtain ⟨i, hi1, hi2⟩ := hE.bytes
      have hl1 := conL_len e3
      obtain ⟨cap, dr, rest', r1, r2, r3⟩ := run_grow (P := C.P) (w := w) (sT := sT) (xT := xT) (rt := ty) hz1 hz2 hi1 hi2 e1 e4 e2 e5 (by omega) hlim (by rw [hl1, srcS_len hs]) (by rw [hl2, srcS_len h2])
      have hcc : ConL ρ Φ w (cs.drop o ++ news) (xs0 ++ ys) := conL_append e3 e6
      have hp := Post.new (h4.drewn dr) (nx := nx) (hf nx (Nat.le_refl _) (Nat.lt_succ_self _)) (k := .cells (cs.drop o ++ news) e) (o := .cells (xs0 ++ ys ++ rest').toArray e) 0 (cap * z)
        ⟨[], xs0 ++ ys, rest', ConL.mono (w := w) (w' := { w with drawn := dr }) ρ.le_refl Φ.le_refl (fun _ _ => rfl) _ hcc, rfl, by rw [← r2]; simp [Nat.add_assoc], by simp⟩
      refine ⟨ρ.upd nx (w.heap.size, 0, cap * z), Φ, .slice (some ⟨w.heap.size, 0, none⟩) (n + m) cap, { w with drawn := dr }.alloc (.cells (xs0 ++ ys ++ rest').toArray e), .inl ?_, ?_, ?_⟩
      · show (execOp a.eval _).run C.P w = .ok (.value (.slice (some ⟨w.heap.size, 0, none⟩) (n + m) cap)) ({ w with drawn := dr }.alloc (.cells (xs0 ++ ys ++ rest').toArray e))
        simp only [execOp, resolve, Sem.run_bind, Sem.run_pure, Result.andThen_ok, invoke, builtin]
        simp [r3]
      · rw [List.cons_append, List.cons_append, List.nil_append, gt_upG, gt_upG]
        refine (Post.less hp.undraw ?_).more (by simp)
        intro b' k' hb'
        unfold upG at hb' ⊢
        split at hb'
        · rename_i h; rw [if_pos h]; exact hb'
        · rename_i h
          rw [if_neg h]
          split at hb'
          · cases hb'
          · exact hb'
      · simp only [Con]; exact ⟨_, cap, Env.upd_same _ _ _, r1, by simp, rfl⟩

/-- append of nothing. -/
theorem U_appendNone {sT xT e e' z z' n : Nat} {x y : Operand} {s v : AV} {olds news : List AV} [hT : TySl C.P sT e z] [hX : TySl C.P xT e' z'] (hx : ev T x = some s) (hy : ev T y = some v) (h1 : srcS z H s = some (olds, n)) (h2 : srcS z H v = some (news, 0)) (hcap : ∀ ρ Φ w a k, Con ρ Φ w s (.slice a n k) → n ≤ k) :
    OpU C ⟨d, .call ⟨.builtin .append, #[x, y], #[sT, xT]⟩, ty, pos, after, g⟩ T H nx s [] nx :=
  OpU.of_value (by intro c; simp) fun ρ Φ a w h3 h4 => by
    obtain ⟨ad, k, xs, e1, e2, e3⟩ := srcS_con (P := C.P) h4 h1 (ev_con h3 hx)
    obtain ⟨ad', k', ys, e4, e5, e6⟩ := srcS_con (P := C.P) h4 h2 (ev_con h3 hy)
    have hl := conL_len e6
    rw [srcS_len h2, Nat.zero_mul] at hl
    have : ys = [] := List.length_eq_zero_iff.1 hl
    subst this
    have hnk := hcap ρ Φ w ad k (e1 ▸ ev_con h3 hx)
    refine ⟨a.eval x, ?_, ev_con h3 hx⟩
    have e5' := e5 w.drawn
    rw [e4] at e5'
    have : (Builtin.append_ #[sT, xT] ty #[a.eval x, a.eval y]).run C.P w = .ok (a.eval x) w := by
      rw [e1, e4]
      unfold Builtin.append_
      cases ad with
      | none => simp only [List.getElem?_toArray, List.getElem?_cons_zero, List.getElem?_cons_succ, Sem.run_bind, run_underlying hT.un, run_underlying hX.un, Result.andThen_ok, Sem.run_pure, hT.size, Bool.false_eq_true, if_false, Builtin.lenOf, Nat.add_zero, hnk, if_true, Bool.not_false, e5']
      | some ad => simp only [List.getElem?_toArray, List.getElem?_cons_zero, List.getElem?_cons_succ, Sem.run_bind, run_underlying hT.un, run_underlying hX.un, Result.andThen_ok, Sem.run_pure, hT.size, Bool.false_eq_true, if_false, Builtin.lenOf, Nat.add_zero, hnk, if_true, Bool.not_false, e5', storeCells]
    simp only [execOp, resolve, Sem.run_bind, Sem.run_pure, Result.andThen_ok, invoke, builtin]
    simp [this]

/-! ### Steps with the state written out -/
end ops
section steps
variable {C : Ctx} {T : AT} {H : AH} {nx : Nat} {df : List Nat} {ops : Array Oper} {i : Nat} {K : St → Prop} {o : Oper} {v : AV} {ups : AH} {nx' t : Nat} {c : Bool}
theorem all_some {o : Oper} {t n : Nat} (hd : o.dst = some t) (ht : t.blt n = true) : o.dst.all (· < n) = true := by rw [hd]; simpa using ht
theorem all_none {o : Oper} {n : Nat} (hd : o.dst = none) : o.dst.all (· < n) = true := by rw [hd]; rfl
theorem Rv (ho : nth ops.toList i = some o) (hg : wantedA ops.toList T o = some c) (hc : c = true) (hU : OpU C o T H nx v [] nx) (hd : o.dst = some t) (ht : t.blt C.nt = true) (k : Reg C ops (i + 1) K ⟨(t, v) :: T, H, nx, df⟩) : Reg C ops i K ⟨T, H, nx, df⟩ :=
  Reg_op (s := ⟨T, H, nx, df⟩) ho hg hc hU (all_some hd ht) (Nat.le_refl _) (by rw [hd]; exact k)
theorem Rn (ho : nth ops.toList i = some o) (hg : wantedA ops.toList T o = some c) (hc : c = true) (hU : OpU C o T H nx v ups nx) (hd : o.dst = none) (k : Reg C ops (i + 1) K ⟨T, ups ++ H, nx, df⟩) : Reg C ops i K ⟨T, H, nx, df⟩ :=
  Reg_op (s := ⟨T, H, nx, df⟩) ho hg hc hU (all_none hd) (Nat.le_refl _) (by rw [hd]; exact k)
theorem Ra (ho : nth ops.toList i = some o) (hg : wantedA ops.toList T o = some c) (hc : c = true) (hU : OpU C o T H nx v ups nx') (hd : o.dst = some t) (ht : t.blt C.nt = true) (hn : nx.ble nx' = true) (k : Reg C ops (i + 1) K ⟨(t, v) :: T, ups ++ H, nx', df⟩) : Reg C ops i K ⟨T, H, nx, df⟩ :=
  Reg_op (s := ⟨T, H, nx, df⟩) ho hg hc hU (all_some hd ht) (Nat.le_of_ble_eq_true hn) (by rw [hd]; exact k)
theorem Rs (ho : nth ops.toList i = some o) (hg : wantedA ops.toList T o = some c) (hc : c = false) (hd : o.dst = some t) (ht : t.blt C.nt = true) (k : Reg C ops (i + 1) K ⟨(t, .tup []) :: T, H, nx, df⟩) : Reg C ops i K ⟨T, H, nx, df⟩ :=
  Reg_skip (s := ⟨T, H, nx, df⟩) ho hg hc (all_some hd ht) (by rw [hd]; exact k)
theorem Re (hi : nth ops.toList i = none) (h : K ⟨T, H, nx, df⟩) : Reg C ops i K ⟨T, H, nx, df⟩ := Reg_end hi h
end steps
section dsteps
variable {C : Ctx} {kl : Oper → Nat} {ops : List Oper} {ms : List Nat} {H0 : AH} {K : AT → AH → Nat → Prop} {i : Nat} {T : AT} {D : List (Nat × AH)} {nx nx' t : Nat} {o : Oper} {v : AV} {ups : AH} {c : Bool}
theorem Dv (ho : nth ops i = some o) (hg : wantedA ops T o = some c) (hc : c = true) (hU : OpU C o (only (looks ops o) T) (hrOf (kl o) (msk ms i) H0 D) nx v [] nx) (hd : o.dst = some t) (ht : t.blt C.nt = true)
    (k : Dr C kl ops ms H0 K (i + 1) ((t, v) :: T) ((i, []) :: D) nx) : Dr C kl ops ms H0 K i T D nx := .op ho hg hc hU (all_some hd ht) (Nat.le_refl _) rfl (by rw [hd]; exact k)
theorem Dn_ (ho : nth ops i = some o) (hg : wantedA ops T o = some c) (hc : c = true) (hU : OpU C o (only (looks ops o) T) (hrOf (kl o) (msk ms i) H0 D) nx v ups nx) (hd : o.dst = none) (hk : upsOk (kl o) (hrOf (kl o) (msk ms i) H0 D) nx nx ups = true)
    (k : Dr C kl ops ms H0 K (i + 1) T ((i, ups) :: D) nx) : Dr C kl ops ms H0 K i T D nx := .op ho hg hc hU (all_none hd) (Nat.le_refl _) hk (by rw [hd]; exact k)
theorem Da (ho : nth ops i = some o) (hg : wantedA ops T o = some c) (hc : c = true) (hU : OpU C o (only (looks ops o) T) (hrOf (kl o) (msk ms i) H0 D) nx v ups nx') (hd : o.dst = some t) (ht : t.blt C.nt = true) (hn : nx.ble nx' = true) (hk : upsOk (kl o) (hrOf (kl o) (msk ms i) H0 D) nx nx' ups = true)
    (k : Dr C kl ops ms H0 K (i + 1) ((t, v) :: T) ((i, ups) :: D) nx') : Dr C kl ops ms H0 K i T D nx := .op ho hg hc hU (all_some hd ht) (Nat.le_of_ble_eq_true hn) hk (by rw [hd]; exact k)
theorem Ds (ho : nth ops i = some o) (hg : wantedA ops T o = some c) (hc : c = false) (hd : o.dst = some t) (ht : t.blt C.nt = true) (k : Dr C kl ops ms H0 K (i + 1) ((t, .tup []) :: T) ((i, []) :: D) nx) : Dr C kl ops ms H0 K i T D nx :=
  .skip ho hg hc (all_some hd ht) (by rw [hd]; exact k)
end dsteps
section codes
variable {C : Ctx} {c : Code} {Q : Exit → St → Prop} {T : AT} {H : AH} {nx : Nat} {df : List Nat}
theorem Wcond {b : Bool} (h : c.tag = 4) (hb : ev T c.c = some (.bool b)) (ht : b = true → WpA C c.l Q ⟨T, H, nx, df⟩) (hf : b = false → WpA C c.r Q ⟨T, H, nx, df⟩) : WpA C c Q ⟨T, H, nx, df⟩ := W_cond h hb ht hf
theorem WcondP {p : Prop} [Decidable p] (h : c.tag = 4) (hb : ev T c.c = some (.bool (decide p))) (ht : p → WpA C c.l Q ⟨T, H, nx, df⟩) (hf : ¬ p → WpA C c.r Q ⟨T, H, nx, df⟩) : WpA C c Q ⟨T, H, nx, df⟩ := W_condP h hb ht hf
/-- Classes, but that some operations touch nothing that is turned. -/
def light (l : List Nat) (o : Oper) : Nat := match o.dst with
  | some d => if l.contains d then 0 else cls o.op
  | none => cls o.op
theorem Wdraw (h : c.tag = 2) (hm : C.P.follows .mixedOrders = true) (hck : chk (fun o => cls o.op) c.ops.toList (masks c.ops.toList) = true)
    (k : Dr C (fun o => cls o.op) c.ops.toList (masks c.ops.toList) H (fun T H nx => Q .normal ⟨T, H, nx, df⟩) 0 T [] nx) : WpA C c Q ⟨T, H, nx, df⟩ := W_draw h hm hck k
theorem WdrawL (l : List Nat) (h : c.tag = 2) (hm : C.P.follows .mixedOrders = true) (hck : chk (light l) c.ops.toList (masks c.ops.toList) = true)
    (k : Dr C (light l) c.ops.toList (masks c.ops.toList) H (fun T H nx => Q .normal ⟨T, H, nx, df⟩) 0 T [] nx) : WpA C c Q ⟨T, H, nx, df⟩ := W_draw h hm hck k
/-- Fewer slots and blocks. -/
theorem Wless {T' : AT} {H' : AH} (hT : subT T' T) (hH : subH H' H) (k : WpA C c Q ⟨T', H', nx, df⟩) : WpA C c Q ⟨T, H, nx, df⟩ := W_gh (Gh_less (s := ⟨T, H, nx, df⟩) hT hH) k
end codes
section ops
variable {C : Ctx} {T : AT} {H : AH} {nx : Nat} {d : Option Tmp} {ty : TypeId} {pos : String} {after : Array Edge} {g : Option (Nat × Bool)}
/-! ### Parts of slices -/
def bnd (T : AT) (def_ : Int) : Option Operand → Option Int
  | none => some def_
  | some x => match ev T x with
    | some (.int _ n) => some n
    | _ => none
theorem bnd_con {ρ : Env} {Φ : Fz} {w : World} {T : AT} {nt : Nat} {a : Act} (h : TmpsAt ρ Φ w T nt a.tmps) {x : Operand} {df n : Int} (hb : bnd T df (some x) = some n) : ∃ k, a.eval x = .int k n := by
  simp only [bnd] at hb
  split at hb
  · rename_i k m he; cases hb; exact ⟨k, con_int (ev_con h he)⟩
  · cases hb
theorem run_sliceBound {P : Program} {w : World} {k : IntKind} {i : Int} {j y : Nat} (hi : i = j) (h : j ≤ y) (c : BoundsCode) : (Instr.sliceBound (.int k i) y c).run P w = .ok j w := by
  subst hi; simp [Instr.sliceBound, asIntOf, h]
theorem run_sliceAt {P : Program} {w : World} {t e z : Nat} [hT : TySl P t e z] {ad : Option Addr} {n k l h m : Nat} {lo hi mx : Option Value}
    (hlo : match lo with | none => l = 0 | some v => ∃ kk, v = .int kk (l : Int)) (hhi : match hi with | none => h = n | some v => ∃ kk, v = .int kk (h : Int)) (hmx : match mx with | none => m = k | some v => hi.isSome ∧ ∃ kk, v = .int kk (m : Int)) (h1 : l ≤ h) (h2 : h ≤ m) (h3 : m ≤ k) :
    (Instr.sliceAt t (.slice ad n k) lo hi mx).run P w = .ok (.slice (if m = l then ad else ad.map (·.add (l * z))) (h - l) (m - l)) w := by
  have hb : ∀ b : Bool, (Instr.sliceBounds b n k lo hi mx).run P w = .ok (l, h, m) w := by
    intro b
    unfold Instr.sliceBounds
    cases mx with
    | none =>
      simp only at hmx; subst hmx
      cases hi with
      | none =>
        simp only at hhi; subst hhi
        cases lo with
        | none => simp only at hlo; subst hlo; simp
        | some v => obtain ⟨kk, rfl⟩ := hlo; simp [run_sliceBound rfl h1]
      | some u =>
        obtain ⟨kk, rfl⟩ := hhi
        cases lo with
        | none => simp only at hlo; subst hlo; simp [run_sliceBound rfl h2]
        | some v => obtain ⟨kk', rfl⟩ := hlo; simp [run_sliceBound rfl h1, run_sliceBound rfl h2]
    | some q =>
      obtain ⟨hs, kq, rfl⟩ := hmx
      cases hi with
      | none => simp at hs
      | some u =>
        obtain ⟨kk, rfl⟩ := hhi
        cases lo with
        | none => simp only at hlo; subst hlo; simp [run_sliceBound rfl h2, run_sliceBound rfl h3]
        | some v => obtain ⟨kk', rfl⟩ := hlo; simp [run_sliceBound rfl h1, run_sliceBound rfl h2, run_sliceBound rfl h3]
  simp only [Instr.sliceAt, Sem.run_bind, run_underlying hT.un, Result.andThen_ok, Instr.slice, hb, hT.size, Sem.run_pure]
def BndIs (T : AT) (x : Option Operand) (df v : Nat) : Prop := match x with
  | none => v = df
  | some y => bnd T 0 (some y) = some (v : Int)
theorem bndIs_con {ρ : Env} {Φ : Fz} {w : World} {T : AT} {nt : Nat} {a : Act} (h : TmpsAt ρ Φ w T nt a.tmps) {x : Option Operand} {df v : Nat} (hb : BndIs T x df v) : match x.map a.eval with | none => v = df | some u => ∃ kk, u = .int kk (v : Int) := by
  cases x with
  | none => exact hb
  | some y => exact bnd_con h hb
/-- A part of an immutable slice. -/
theorem U_sliceR {t e z n l h : Nat} {c : Option Nat} {x : Operand} {lo hi : Option Operand} {cs : List AV} [hT : TySl C.P t e z] (hx : ev T x = some (.ros cs n c)) (hlo : BndIs T lo 0 l) (hhi : BndIs T hi n h) (h1 : l < h) (h2 : h ≤ n) :
    OpU C ⟨d, .slice t x lo hi none, ty, pos, after, g⟩ T H nx (.ros (cs.drop (l * z)) (h - l) (c.map (· - l))) [] nx :=
  OpU.of_value (by intro c; simp) fun ρ Φ a w h3 _ => by
    have hp := ev_con h3 hx
    simp only [Con] at hp
    obtain ⟨r, base, xs, k, e1, e2, e3, e4, e5, e6, e7⟩ := hp.resolve_left fun h => by omega
    refine ⟨.slice (some ⟨r, base + l * z, none⟩) (h - l) (k - l), ?_, ?_⟩
    · have := run_sliceAt (P := C.P) (w := w) (t := t) (ad := some ⟨r, base, none⟩) (n := n) (k := k) (l := l) (h := h) (m := k) (bndIs_con h3 hlo) (bndIs_con h3 hhi) (mx := none) rfl (by omega) (by omega) (Nat.le_refl _)
      rw [if_neg (by omega)] at this
      simp only [execOp, e2, Sem.run_bind, Option.map_none, this, Result.andThen_ok, Sem.run_pure, Option.map_some, add_at]
    · simp only [Con]
      refine .inr ⟨r, base + l * z, xs.drop (l * z), k - l, e1, rfl, by omega, fun m hm => ?_, conL_drop _ e5, fun i v hi => ?_, dataL_drop e7 _⟩
      · cases c with
        | none => cases hm
        | some c => cases hm; rw [e4 c rfl]
      · rw [List.getElem?_drop] at hi
        rw [Nat.add_assoc]; exact e6 _ _ hi
theorem U_sliceR0 {t e z n l : Nat} {c : Option Nat} {x : Operand} {lo hi : Option Operand} {cs : List AV} [hT : TySl C.P t e z] (hx : ev T x = some (.ros cs n c)) (hlo : BndIs T lo 0 l) (hhi : BndIs T hi n l) (h2 : l ≤ n) :
    OpU C ⟨d, .slice t x lo hi none, ty, pos, after, g⟩ T H nx (.ros [] 0 (c.map (· - l))) [] nx :=
  OpU.of_value (by intro c; simp) fun ρ Φ a w h3 _ => by
    have hp := ev_con h3 hx
    simp only [Con] at hp
    rcases hp with ⟨e1, ⟨p, e2⟩, e3⟩ | ⟨r, base, xs, k, e1, e2, e3, e4, e5, e6, e7⟩
    · have hl : l = 0 := by omega
      subst hl; subst e1
      have := run_sliceAt (P := C.P) (w := w) (t := t) (ad := p) (n := 0) (k := 0) (l := 0) (h := 0) (m := 0) (bndIs_con h3 hlo) (bndIs_con h3 hhi) (mx := none) rfl (Nat.le_refl _) (Nat.le_refl _) (Nat.le_refl _)
      refine ⟨.slice p 0 0, by simp only [execOp, e2, Sem.run_bind, Option.map_none, this, Result.andThen_ok, Sem.run_pure]; simp only [if_true], ?_⟩
      simp only [Con]
      refine .inl ⟨trivial, ⟨_, rfl⟩, fun m hm => ?_⟩
      cases c with
      | none => cases hm
      | some c => cases hm; have := e3 c rfl; omega
    have := run_sliceAt (P := C.P) (w := w) (t := t) (ad := some ⟨r, base, none⟩) (n := n) (k := k) (l := l) (h := l) (m := k) (bndIs_con h3 hlo) (bndIs_con h3 hhi) (mx := none) rfl (Nat.le_refl _) (by omega) (Nat.le_refl _)
    have he : (if k = l then some (⟨r, base, none⟩ : Addr) else (some ⟨r, base, none⟩ : Option Addr).map fun x => x.add (l * z)) = some ⟨r, if k = l then base else base + l * z, none⟩ := by split <;> simp [add_at]
    rw [he, Nat.sub_self] at this
    refine ⟨.slice (some ⟨r, if k = l then base else base + l * z, none⟩) 0 (k - l), by simp only [execOp, e2, Sem.run_bind, Option.map_none, this, Result.andThen_ok, Sem.run_pure], ?_⟩
    simp only [Con]
    refine .inr ⟨r, if k = l then base else base + l * z, [], k - l, e1, rfl, Nat.zero_le _, fun m hm => ?_, conL_nil, fun i v hi => by simp at hi, rfl⟩
    · cases c with
      | none => cases hm
      | some c => cases hm; rw [e4 c rfl]
/-- A part of an immutable slice, with no more room than it shows. -/
theorem U_sliceR3 {t e z n h : Nat} {c : Option Nat} {x hi mx : Operand} {cs : List AV} [hT : TySl C.P t e z] (hx : ev T x = some (.ros cs n c)) (hhi : bnd T 0 (some hi) = some (h : Int)) (hmx : bnd T 0 (some mx) = some (h : Int)) (h2 : h ≤ n) :
    OpU C ⟨d, .slice t x none (some hi) (some mx), ty, pos, after, g⟩ T H nx (.ros cs h (some h)) [] nx :=
  OpU.of_value (by intro c; simp) fun ρ Φ a w h3 _ => by
    have hp := ev_con h3 hx
    simp only [Con] at hp
    rcases hp with ⟨e1, ⟨p, e2⟩, e3⟩ | ⟨r, base, xs, k, e1, e2, e3, e4, e5, e6, e7⟩
    · have hl : h = 0 := by omega
      subst hl; subst e1
      have := run_sliceAt (P := C.P) (w := w) (t := t) (ad := p) (n := 0) (k := 0) (l := 0) (h := 0) (m := 0) (lo := none) rfl (bnd_con h3 hhi) (mx := some (a.eval mx)) (hi := some (a.eval hi)) ⟨rfl, bnd_con h3 hmx⟩ (Nat.zero_le _) (Nat.le_refl _) (Nat.le_refl _)
      refine ⟨.slice p 0 0, by simp only [execOp, e2, Sem.run_bind, Option.map_none, Option.map_some, this, Result.andThen_ok, Sem.run_pure]; simp only [if_true], ?_⟩
      simp only [Con]
      exact .inl ⟨trivial, ⟨_, rfl⟩, fun m hm => by cases hm; rfl⟩
    have := run_sliceAt (P := C.P) (w := w) (t := t) (ad := some ⟨r, base, none⟩) (n := n) (k := k) (l := 0) (h := h) (m := h) (lo := none) rfl (bnd_con h3 hhi) (mx := some (a.eval mx)) (hi := some (a.eval hi)) ⟨rfl, bnd_con h3 hmx⟩ (Nat.zero_le _) (Nat.le_refl _) (by omega)
    refine ⟨.slice (some ⟨r, base, none⟩) h h, ?_, ?_⟩
    · simp only [execOp, e2, Sem.run_bind, Option.map_none, Option.map_some, this, Result.andThen_ok, Sem.run_pure]
      simp [add_at]
    · simp only [Con]
      exact .inr ⟨r, base, xs, h, e1, rfl, Nat.le_refl _, fun m hm => by cases hm; rfl, e5, e6, e7⟩
/-- A part of a slice of one's own. -/
theorem U_sliceS {t e z b o n c l h : Nat} {x : Operand} {lo hi : Option Operand} [hT : TySl C.P t e z] (hx : ev T x = some (.slice b o n c)) (hlo : BndIs T lo 0 l) (hhi : BndIs T hi n h) (h1 : l ≤ h) (h2 : h ≤ c) (hlc : l < c) :
    OpU C ⟨d, .slice t x lo hi none, ty, pos, after, g⟩ T H nx (.slice b (o + l * z) (h - l) (c - l)) [] nx :=
  OpU.of_value (by intro c; simp) fun ρ Φ a w h3 _ => by
    have hp := ev_con h3 hx
    simp only [Con] at hp
    obtain ⟨y, e1, e2⟩ := hp
    have := run_sliceAt (P := C.P) (w := w) (t := t) (ad := some ⟨y.1, y.2.1 + o, none⟩) (n := n) (k := c) (l := l) (h := h) (m := c) (bndIs_con h3 hlo) (bndIs_con h3 hhi) (mx := none) rfl h1 h2 (Nat.le_refl _)
    rw [if_neg (by omega)] at this
    refine ⟨.slice (some ⟨y.1, y.2.1 + o + l * z, none⟩) (h - l) (c - l), ?_, ?_⟩
    · simp only [execOp, e2, Sem.run_bind, Option.map_none, this, Result.andThen_ok, Sem.run_pure, Option.map_some, add_at]
    · simp only [Con]; exact ⟨y, e1, by rw [Nat.add_assoc]⟩
theorem U_sliceSo {t e z b o n l h : Nat} {x : Operand} {lo hi : Option Operand} [hT : TySl C.P t e z] (hx : ev T x = some (.sliceo b o n z)) (hlo : BndIs T lo 0 l) (hhi : BndIs T hi n h) (h1 : l ≤ h) (h2 : h ≤ n) (hlc : l < n) :
    OpU C ⟨d, .slice t x lo hi none, ty, pos, after, g⟩ T H nx (.sliceo b (o + l * z) (h - l) z) [] nx :=
  OpU.of_value (by intro c; simp) fun ρ Φ a w h3 _ => by
    have hp := ev_con h3 hx
    simp only [Con] at hp
    obtain ⟨y, k, e1, e3, e4, e2⟩ := hp
    have := run_sliceAt (P := C.P) (w := w) (t := t) (ad := some ⟨y.1, y.2.1 + o, none⟩) (n := n) (k := k) (l := l) (h := h) (m := k) (bndIs_con h3 hlo) (bndIs_con h3 hhi) (mx := none) rfl h1 (by omega) (Nat.le_refl _)
    rw [if_neg (by omega)] at this
    refine ⟨.slice (some ⟨y.1, y.2.1 + o + l * z, none⟩) (h - l) (k - l), ?_, ?_⟩
    · simp only [execOp, e2, Sem.run_bind, Option.map_none, this, Result.andThen_ok, Sem.run_pure, Option.map_some, add_at]
    · simp only [Con]
      refine ⟨y, k - l, e1, by omega, ?_, by rw [Nat.add_assoc]⟩
      have : k * z = l * z + (k - l) * z := by rw [← Nat.add_mul]; congr 1; omega
      omega
/-- .. with no more room than it shows. -/
theorem U_sliceSo3 {t e z b o n h : Nat} {x hi mx : Operand} [hT : TySl C.P t e z] (hx : ev T x = some (.sliceo b o n z)) (hhi : bnd T 0 (some hi) = some (h : Int)) (hmx : bnd T 0 (some mx) = some (h : Int)) (h2 : h ≤ n) :
    OpU C ⟨d, .slice t x none (some hi) (some mx), ty, pos, after, g⟩ T H nx (.slice b o h h) [] nx :=
  OpU.of_value (by intro c; simp) fun ρ Φ a w h3 _ => by
    have hp := ev_con h3 hx
    simp only [Con] at hp
    obtain ⟨y, k, e1, e3, e4, e2⟩ := hp
    have := run_sliceAt (P := C.P) (w := w) (t := t) (ad := some ⟨y.1, y.2.1 + o, none⟩) (n := n) (k := k) (l := 0) (h := h) (m := h) (lo := none) rfl (bnd_con h3 hhi) (mx := some (a.eval mx)) (hi := some (a.eval hi)) ⟨rfl, bnd_con h3 hmx⟩ (Nat.zero_le _) (Nat.le_refl _) (by omega)
    refine ⟨.slice (some ⟨y.1, y.2.1 + o, none⟩) h h, ?_, ?_⟩
    · simp only [execOp, e2, Sem.run_bind, Option.map_none, Option.map_some, this, Result.andThen_ok, Sem.run_pure]
      simp [add_at]
    · simp only [Con]; exact ⟨y, e1, rfl⟩
/-- .. of nothing. -/
theorem U_sliceN3 {t e z : Nat} {x hi mx : Operand} [hT : TySl C.P t e z] (hx : ev T x = some .nils) (hhi : bnd T 0 (some hi) = some (0 : Int)) (hmx : bnd T 0 (some mx) = some (0 : Int)) :
    OpU C ⟨d, .slice t x none (some hi) (some mx), ty, pos, after, g⟩ T H nx .nils [] nx :=
  OpU.of_value (by intro c; simp) fun ρ Φ a w h3 _ => by
    have hp := ev_con h3 hx
    simp only [Con] at hp
    have := run_sliceAt (P := C.P) (w := w) (t := t) (ad := none) (n := 0) (k := 0) (l := 0) (h := 0) (m := 0) (lo := none) rfl (bnd_con h3 hhi) (mx := some (a.eval mx)) (hi := some (a.eval hi)) ⟨rfl, bnd_con h3 hmx⟩ (Nat.zero_le _) (Nat.le_refl _) (by omega)
    refine ⟨.slice none 0 0, ?_, ?_⟩
    · simp only [execOp, hp, Sem.run_bind, Option.map_none, Option.map_some, this, Result.andThen_ok, Sem.run_pure]
      simp
    · simp only [Con]
/-- A whole array, or a part of one, as a slice. -/
theorem U_sliceA {t len e z b o l h : Nat} {x : Operand} {lo hi : Option Operand} [hT : TyAr C.P t len e z] (hx : ev T x = some (.ptr b o)) (hlo : BndIs T lo 0 l) (hhi : BndIs T hi len h) (h1 : l ≤ h) (h2 : h ≤ len) (hlc : l < len) :
    OpU C ⟨d, .slice t x lo hi none, ty, pos, after, g⟩ T H nx (.slice b (o + l * z) (h - l) (len - l)) [] nx :=
  OpU.of_value (by intro c; simp) fun ρ Φ a w h3 _ => by
    have hp := ev_con h3 hx
    simp only [Con] at hp
    obtain ⟨y, e1, e2⟩ := hp
    have hb : (Instr.sliceBounds false len len (lo.map a.eval) (hi.map a.eval) none).run C.P w = .ok (l, h, len) w := by
      have e3 := bndIs_con h3 hlo
      have e4 := bndIs_con h3 hhi
      unfold Instr.sliceBounds
      cases hhh : hi.map a.eval with
      | none =>
        rw [hhh] at e4; simp only at e4; subst e4
        cases hll : lo.map a.eval with
        | none => rw [hll] at e3; simp only at e3; subst e3; simp
        | some v => rw [hll] at e3; obtain ⟨kk, rfl⟩ := e3; simp [run_sliceBound rfl h1]
      | some u =>
        rw [hhh] at e4; obtain ⟨kk, rfl⟩ := e4
        cases hll : lo.map a.eval with
        | none => rw [hll] at e3; simp only at e3; subst e3; simp [run_sliceBound rfl h2]
        | some v => rw [hll] at e3; obtain ⟨kk', rfl⟩ := e3; simp [run_sliceBound rfl h1, run_sliceBound rfl h2]
    refine ⟨.slice (some ⟨y.1, y.2.1 + o + l * z, none⟩) (h - l) (len - l), ?_, ?_⟩
    · simp only [execOp, e2, Sem.run_bind, Option.map_none, Instr.sliceAt, run_underlying hT.un, Instr.sureAddr, Sem.run_pure, Result.andThen_ok, hb, hT.size, if_neg (show ¬ len = l by omega), add_at]
    · simp only [Con]; exact ⟨y, e1, by rw [Nat.add_assoc]⟩

/-! ### make, copy, clear -/
class TyMake (P : Program) (t : TypeId) (e : outParam Nat) (z : outParam (List AV)) : Prop where
  un : P.underlying t = some (.slice e)
  zero : ∃ v, (∀ w, (zeroValue e).run P w = .ok v w) ∧ cvSL v.cells.toList = some z ∧ ∀ w, (Go.sizeOf e).run P w = .ok z.length w
  bytes : ∃ i, (∀ w, (typeInfo e).run P w = .ok i w) ∧ i.bytes ≤ 100000
theorem U_makeSlice {t e n : Nat} {z : List AV} {x y : Operand} {k k' : IntKind} {m : Int} [hT : TyMake C.P t e z] (hx : ev T x = some (.int k m)) (hy : ev T y = some (.int k' m)) (hm : m = n) (hlim : n ≤ 1000000) :
    OpU C ⟨d, .makeSlice t x y, ty, pos, after, g⟩ T H nx (.slice nx 0 n n) [(nx, some (.cells (List.replicate n z).flatten e))] (nx + 1) :=
  OpU.of_run (by intro c; simp) fun ρ Φ a w h1 h2 h3 => by
    subst hm
    obtain ⟨zv, hz1, hz2, hz3⟩ := hT.zero
    obtain ⟨i, hi1, hi2⟩ := hT.bytes
    have hzc := cvSL_con (ρ := ρ) (Φ := Φ) (w := w) hz2
    have hzs : zv.cells.size = z.length := by have := conL_len hzc; simpa using this
    have hw : IntKind.i64.wrap (n : Int) = n := w64 (by omega) (by omega)
    have hbig : ¬ ((i.bytes : Int) * (n : Int) > 2 ^ 48) := by
      have : i.bytes * n ≤ 100000 * 1000000 := Nat.mul_le_mul hi2 hlim
      have : ((i.bytes * n : Nat) : Int) ≤ 100000000000 := by omega
      rw [Int.natCast_mul] at this; omega
    have fin : ∀ Z : Array Value, ((Array.range (n * z.length)).map (Z[· % Z.size]!)).toList = (List.replicate n zv.cells.toList).flatten →
        (Instr.makeSlice t (.int k n) (.int k' n)).run C.P w = .ok (.slice (some ⟨w.heap.size, 0, none⟩) n n) (w.alloc (.cells ((Array.range (n * z.length)).map (Z[· % Z.size]!)) e)) →
        ∃ ρ' Φ' x' w', ((execOp a.eval ⟨d, .makeSlice t x y, ty, pos, after, g⟩).run C.P w = .ok (.value x') w' ∨ ((execOp a.eval ⟨d, .makeSlice t x y, ty, pos, after, g⟩).run C.P w = .ok .skip w' ∧ x' = undef)) ∧ Post C.Wr C.w0 ρ Φ w nx (nx + 1) (([(nx, some (ABlk.cells (List.replicate n z).flatten e))] : AH).map (·.1)) (gt ([(nx, some (ABlk.cells (List.replicate n z).flatten e))] ++ H)) ρ' Φ' w' ∧ Con ρ' Φ' w' (.slice nx 0 n n) x' := by
      intro Z hZ hrun
      have := new_at h3 h1 e (hZ ▸ conL_flat hzc n)
      refine ⟨_, _, .slice (some ⟨w.heap.size, 0, none⟩) n n, _, .inl ?_, this, by simp only [Con]; exact ⟨_, Env.upd_same _ _ _, rfl⟩⟩
      simp only [execOp, con_int (ev_con h2 hx), con_int (ev_con h2 hy), Sem.run_bind, hrun, Result.andThen_ok, Sem.run_pure]
    by_cases h0 : n * z.length = 0
    · refine fin #[] ?_ ?_
      · rw [h0]
        have : (List.replicate n zv.cells.toList).flatten.length = 0 := by simp [hzs, h0]
        rw [List.length_eq_zero_iff.1 this]; simp
      · simp [Instr.makeSlice, run_underlying hT.un, asInt, asIntOf, hi1, hw, hz3, h0, newRow]
        intro hh; exfalso; omega
    · refine fin zv.cells ?_ ?_
      · rw [← hzs]; exact zeros_eq zv.cells n
      · simp [Instr.makeSlice, run_underlying hT.un, asInt, asIntOf, hi1, hw, hz3, h0, newRow, hz1]
        intro hh; exfalso; omega
end ops
end Go.AE
end

section
/- Abstract states, eleventh part: blocks that are forgotten, loops whose rounds make blocks, and how a function of data ends. -/
namespace Go.AE
open Go.RowKit

theorem w64e {n m : Int} (e : n = m) (h1 : -9223372036854775808 ≤ n) (h2 : n ≤ 9223372036854775807) : IntKind.i64.wrap n = m := (w64 h1 h2).trans e

theorem ltOf {a b : Nat} (h : a.blt b = true) : a < b := by simpa [Nat.blt_eq] using h

/-! ### Which blocks a value names -/
mutual
def AV.belb (n : Nat) : AV → Bool
  | .bool _ | .int _ _ | .str _ | .nilp | .nils | .nilm | .nilf | .nili | .rop _ _ | .ros _ _ _ | .rom _ => true
  | .ptr b _ | .slice b _ _ _ | .sliceo b _ _ _ | .out b _ _ | .mapl b | .yld b => b.blt n
  | .agg cs | .tup cs => belbL n cs
  | .fn _ a b => belbL n a && belbL n b
def belbL (n : Nat) : List AV → Bool
  | [] => true
  | v :: vs => v.belb n && belbL n vs
end
def belbE (n : Nat) : List (AV × AV × Nat) → Bool
  | [] => true
  | (k, v, _) :: es => k.belb n && v.belb n && belbE n es
def belbT (n : Nat) : AT → Bool
  | [] => true
  | (_, v) :: T => v.belb n && belbT n T
def ABlk.belb (n : Nat) : ABlk → Bool
  | .cells cs _ => belbL n cs
  | .map es _ => belbE n es
  | .iter v _ _ _ => v.belb n
  | .loop _ _ T _ _ _ _ d => d.blt n && belbT n T
  | .defd _ => true
def belbH (n : Nat) : AH → Bool
  | [] => true
  | (b, some k) :: H => b.blt n && k.belb n && belbH n H
  | (_, none) :: H => belbH n H
/-! ### Other numbers -/
mutual
/-- A value, with other numbers of its blocks. -/
def AV.ren (σ : Nat → Nat) : AV → AV
  | .ptr b o => .ptr (σ b) o
  | .slice b o n c => .slice (σ b) o n c
  | .sliceo b o n z => .sliceo (σ b) o n z
  | .out b n z => .out (σ b) n z
  | .mapl b => .mapl (σ b)
  | .yld b => .yld (σ b)
  | .agg l => .agg (renL σ l)
  | .tup l => .tup (renL σ l)
  | .fn f x y => .fn f (renL σ x) (renL σ y)
  | v => v
def renL (σ : Nat → Nat) : List AV → List AV
  | [] => []
  | v :: l => v.ren σ :: renL σ l
end
def renT (σ : Nat → Nat) : AT → AT
  | [] => []
  | (i, v) :: T => (i, v.ren σ) :: renT σ T
def renE (σ : Nat → Nat) : List (AV × AV × Nat) → List (AV × AV × Nat)
  | [] => []
  | (k, v, n) :: T => (k.ren σ, v.ren σ, n) :: renE σ T
def ABlk.ren (σ : Nat → Nat) : ABlk → ABlk
  | .cells l t => .cells (renL σ l) t
  | .map es ck => .map (renE σ es) ck
  | .iter v s l c => .iter (v.ren σ) s l c
  | .loop st pending T nt params assign body d => .loop st pending (renT σ T) nt params assign body (σ d)
  | k => k
section
variable {ρ ρ' : Env} {Φ : Fz} {w : World} {n : Nat} {σ : Nat → Nat}
mutual
/-- From the old numbers to the new ones. -/
theorem Con.unren (h : ∀ b x, b < n → ρ (σ b) = some x → ρ' b = some x) : ∀ (v : AV) {y : Value}, v.belb n = true → Con ρ Φ w (v.ren σ) y → Con ρ' Φ w v y
  | .bool _, _, _, k | .int _ _, _, _, k | .str _, _, _, k | .nilp, _, _, k | .nils, _, _, k | .nilm, _, _, k | .nilf, _, _, k | .nili, _, _, k => by simpa only [AV.ren, Con] using k
  | .rop cs o, _, _, k => Con.data (.rop cs o) rfl (by simpa only [AV.ren] using k)
  | .ros cs m c, _, _, k => Con.data (.ros cs m c) rfl (by simpa only [AV.ren] using k)
  | .rom es, _, _, k => Con.data (.rom es) rfl (by simpa only [AV.ren] using k)
  | .ptr b _, _, d, k | .slice b _ _ _, _, d, k | .mapl b, _, d, k | .yld b, _, d, k => by
    simp only [AV.ren, Con] at k ⊢; obtain ⟨z, h1, h2⟩ := k; exact ⟨z, h b z (ltOf d) h1, h2⟩
  | .sliceo b _ _ _, _, d, k => by
    simp only [AV.ren, Con] at k ⊢; obtain ⟨z, m, h1, h2⟩ := k; exact ⟨z, m, h b z (ltOf d) h1, h2⟩
  | .out b _ _, _, d, k => by
    simp only [AV.ren, Con] at k ⊢; exact k.imp id fun ⟨h0, z, m, h1, h2⟩ => ⟨h0, z, m, h b z (ltOf d) h1, h2⟩
  | .agg l, _, d, k => by
    have d' : belbL n l = true := by simpa only [AV.belb] using d
    simp only [AV.ren, Con] at k ⊢; obtain ⟨xs, h1, h2⟩ := k; exact ⟨xs, ConL.unren h l d' h1, h2⟩
  | .tup l, _, d, k => by
    have d' : belbL n l = true := by simpa only [AV.belb] using d
    simp only [AV.ren, Con] at k ⊢; obtain ⟨xs, h1, h2⟩ := k; exact ⟨xs, ConL.unren h l d' h1, h2⟩
  | .fn f a b, _, d, k => by
    have d' : belbL n a = true ∧ belbL n b = true := by simpa only [AV.belb, Bool.and_eq_true] using d
    simp only [AV.ren, Con] at k ⊢; obtain ⟨xs, ys, h1, h2, h3⟩ := k; exact ⟨xs, ys, ConL.unren h a d'.1 h1, ConL.unren h b d'.2 h2, h3⟩
theorem ConL.unren (h : ∀ b x, b < n → ρ (σ b) = some x → ρ' b = some x) : ∀ (l : List AV) {ys : List Value}, belbL n l = true → ConL ρ Φ w (renL σ l) ys → ConL ρ' Φ w l ys
  | [], _, _, k => by simpa only [renL, ConL] using k
  | v :: l, _, d, k => by
    have d' : v.belb n = true ∧ belbL n l = true := by simpa only [belbL, Bool.and_eq_true] using d
    simp only [renL] at k
    obtain ⟨y, ys, rfl, h1, h2⟩ := conL_inv k; exact conL_cons (Con.unren h v d'.1 h1) (ConL.unren h l d'.2 h2)
end
mutual
theorem Con.ren (h : ∀ b x, ρ' b = some x → ρ (σ b) = some x) : ∀ (v : AV) {y : Value}, Con ρ' Φ w v y → Con ρ Φ w (v.ren σ) y
  | .bool _, _, k | .int _ _, _, k | .str _, _, k | .nilp, _, k | .nils, _, k | .nilm, _, k | .nilf, _, k | .nili, _, k => by simpa only [AV.ren, Con] using k
  | .rop cs o, _, k => by simp only [AV.ren]; exact Con.data (.rop cs o) rfl k
  | .ros cs m c, _, k => by simp only [AV.ren]; exact Con.data (.ros cs m c) rfl k
  | .rom es, _, k => by simp only [AV.ren]; exact Con.data (.rom es) rfl k
  | .ptr b _, _, k | .slice b _ _ _, _, k | .mapl b, _, k | .yld b, _, k => by
    simp only [AV.ren, Con] at k ⊢; obtain ⟨z, h1, h2⟩ := k; exact ⟨z, h b z h1, h2⟩
  | .sliceo b _ _ _, _, k => by
    simp only [AV.ren, Con] at k ⊢; obtain ⟨z, m, h1, h2⟩ := k; exact ⟨z, m, h b z h1, h2⟩
  | .out b _ _, _, k => by
    simp only [AV.ren, Con] at k ⊢; exact k.imp id fun ⟨h0, z, m, h1, h2⟩ => ⟨h0, z, m, h b z h1, h2⟩
  | .agg l, _, k => by
    simp only [AV.ren, Con] at k ⊢; obtain ⟨xs, h1, h2⟩ := k; exact ⟨xs, ConL.ren h l h1, h2⟩
  | .tup l, _, k => by
    simp only [AV.ren, Con] at k ⊢; obtain ⟨xs, h1, h2⟩ := k; exact ⟨xs, ConL.ren h l h1, h2⟩
  | .fn f a b, _, k => by
    simp only [AV.ren, Con] at k ⊢; obtain ⟨xs, ys, h1, h2, h3⟩ := k; exact ⟨xs, ys, ConL.ren h a h1, ConL.ren h b h2, h3⟩
theorem ConL.ren (h : ∀ b x, ρ' b = some x → ρ (σ b) = some x) : ∀ (l : List AV) {ys : List Value}, ConL ρ' Φ w l ys → ConL ρ Φ w (renL σ l) ys
  | [], _, k => by simpa only [renL, ConL] using k
  | v :: l, _, k => by
    simp only [renL]
    obtain ⟨y, ys, rfl, h1, h2⟩ := conL_inv k; exact conL_cons (Con.ren h v h1) (ConL.ren h l h2)
end
theorem ConE.unren (h : ∀ b x, b < n → ρ (σ b) = some x → ρ' b = some x) : ∀ (l : List (AV × AV × Nat)) {ys : List MapEntry}, belbE n l = true → ConE ρ Φ w (renE σ l) ys → ConE ρ' Φ w l ys
  | [], _, _, k => by simpa only [renE, ConE] using k
  | (a, v, m) :: l, _, d, k => by
    have d' : (a.belb n = true ∧ v.belb n = true) ∧ belbE n l = true := by simpa only [belbE, Bool.and_eq_true] using d
    simp only [renE, ConE] at k ⊢
    obtain ⟨x, y, ys, h0, h1, h2, h3⟩ := k; exact ⟨x, y, ys, h0, Con.unren h a d'.1.1 h1, Con.unren h v d'.1.2 h2, ConE.unren h l d'.2 h3⟩
theorem ConE.ren (h : ∀ b x, ρ' b = some x → ρ (σ b) = some x) : ∀ (l : List (AV × AV × Nat)) {ys : List MapEntry}, ConE ρ' Φ w l ys → ConE ρ Φ w (renE σ l) ys
  | [], _, k => by simpa only [renE, ConE] using k
  | (a, v, m) :: l, _, k => by
    simp only [renE, ConE] at k ⊢
    obtain ⟨x, y, ys, h0, h1, h2, h3⟩ := k; exact ⟨x, y, ys, h0, Con.ren h a h1, Con.ren h v h2, ConE.ren h l h3⟩
theorem renT_lk : ∀ {T : AT} {i : Nat}, lk (renT σ T) i = (lk T i).map (AV.ren σ)
  | [], i => rfl
  | (j, u) :: T, i => by
    simp only [renT, lk_cons]
    split
    · rfl
    · exact renT_lk
theorem belbT_lk : ∀ {T : AT}, belbT n T = true → ∀ i v, lk T i = some v → v.belb n = true
  | [], _, i, v, h => by cases h
  | (j, u) :: T, d, i, v, h => by
    have d' : u.belb n = true ∧ belbT n T = true := by simpa only [belbT, Bool.and_eq_true] using d
    rw [lk_cons] at h; split at h
    · cases h; exact d'.1
    · exact belbT_lk d'.2 i v h
theorem TmpsAt.unren (h : ∀ b x, b < n → ρ (σ b) = some x → ρ' b = some x) {T : AT} {nt : Nat} {tmps : Array Value} (hb : belbT n T = true) (k : TmpsAt ρ Φ w (renT σ T) nt tmps) : TmpsAt ρ' Φ w T nt tmps :=
  ⟨k.size, fun i v hi => by
    obtain ⟨x, e1, e2⟩ := k.at_ i (v.ren σ) (by rw [renT_lk, hi]; rfl)
    exact ⟨x, Con.unren h v (belbT_lk hb i v hi) e1, e2⟩⟩
theorem TmpsAt.ren (h : ∀ b x, ρ' b = some x → ρ (σ b) = some x) {T : AT} {nt : Nat} {tmps : Array Value} (k : TmpsAt ρ' Φ w T nt tmps) : TmpsAt ρ Φ w (renT σ T) nt tmps :=
  ⟨k.size, fun i v hi => by
    rw [renT_lk] at hi
    cases e : lk T i with
    | none => rw [e] at hi; cases hi
    | some u =>
      rw [e] at hi; cases hi
      obtain ⟨x, e1, e2⟩ := k.at_ i u e
      exact ⟨x, Con.ren h u e1, e2⟩⟩
theorem BlkAt.unren (h : ∀ b x, b < n → ρ (σ b) = some x → ρ' b = some x) {y : Nat × Nat × Nat} : ∀ {k : ABlk} {o : Obj}, k.belb n = true → BlkAt ρ Φ w y (k.ren σ) o → BlkAt ρ' Φ w y k o
  | .cells _ _, _, d, ⟨pre, ys, rest, h2, h3⟩ => ⟨pre, ys, rest, ConL.unren h _ d h2, h3⟩
  | .map _ _, _, d, ⟨l, h2, h3⟩ => ⟨l, ConE.unren h _ d h2, h3⟩
  | .iter _ _ _ _, _, d, ⟨r, h2, h3⟩ => ⟨r, Con.unren h _ d h2, h3⟩
  | .loop _ _ T _ _ _ _ d0, _, d, ⟨fn, tmps, z, h2, h3, h4⟩ => by
    have d' : d0.blt n = true ∧ belbT n T = true := by simpa only [ABlk.belb, Bool.and_eq_true] using d
    exact ⟨fn, tmps, z, h _ _ (ltOf d'.1) h2, h3.unren h d'.2, h4⟩
  | .defd _, _, _, k => k
theorem BlkAt.ren (h : ∀ b x, ρ' b = some x → ρ (σ b) = some x) {y : Nat × Nat × Nat} : ∀ {k : ABlk} {o : Obj}, BlkAt ρ' Φ w y k o → BlkAt ρ Φ w y (k.ren σ) o
  | .cells _ _, _, ⟨pre, ys, rest, h2, h3⟩ => ⟨pre, ys, rest, ConL.ren h _ h2, h3⟩
  | .map _ _, _, ⟨l, h2, h3⟩ => ⟨l, ConE.ren h _ h2, h3⟩
  | .iter _ _ _ _, _, ⟨r, h2, h3⟩ => ⟨r, Con.ren h _ h2, h3⟩
  | .loop _ _ _ _ _ _ _ _, _, ⟨fn, tmps, z, h2, h3, h4⟩ => ⟨fn, tmps, z, h _ _ h2, h3.ren h, h4⟩
  | .defd _, _, k => k
theorem belbH_gt : ∀ {H : AH}, belbH n H = true → ∀ b k, gt H b = some k → b < n ∧ k.belb n = true
  | [], _, b, k, h => by cases h
  | (c, some u) :: H, d, b, k, h => by
    have d' : (c.blt n = true ∧ u.belb n = true) ∧ belbH n H = true := by simpa only [belbH, Bool.and_eq_true] using d
    rw [gt_cons] at h; split at h
    · rename_i e; subst e; cases h; exact ⟨ltOf d'.1.1, d'.1.2⟩
    · exact belbH_gt d'.2 b k h
  | (c, none) :: H, d, b, k, h => by
    rw [gt_cons] at h
    by_cases e : c = b
    · rw [if_pos e] at h; cases h
    · rw [if_neg e] at h; exact belbH_gt (H := H) d b k h
end
/-- The state with the old numbers shows that with the new ones. -/
def renSubT (σ : Nat → Nat) : AT → AT → Prop
  | [], _ => True
  | (i, v) :: l, T => lk T i = some (v.ren σ) ∧ renSubT σ l T
def renSubH (σ : Nat → Nat) : AH → AH → Prop
  | [], _ => True
  | (i, some k) :: l, H => gt H (σ i) = some (k.ren σ) ∧ renSubH σ l H
  | (_, none) :: l, H => renSubH σ l H
theorem renSubT_lk {σ : Nat → Nat} : ∀ {T' T : AT}, renSubT σ T' T → ∀ i v, lk T' i = some v → lk T i = some (v.ren σ)
  | [], _, _, i, v, h => by cases h
  | (j, u) :: l, T, ⟨h1, h2⟩, i, v, h => by
    rw [lk_cons] at h
    split at h
    · rename_i e; subst e; cases h; exact h1
    · exact renSubT_lk h2 i v h
theorem renSubH_gt {σ : Nat → Nat} : ∀ {H' H : AH}, renSubH σ H' H → ∀ i v, gt H' i = some v → gt H (σ i) = some (v.ren σ)
  | [], _, _, i, v, h => by cases h
  | (j, some u) :: l, H, ⟨h1, h2⟩, i, v, h => by
    rw [gt_cons] at h
    split at h
    · rename_i e; subst e; cases h; exact h1
    · exact renSubH_gt h2 i v h
  | (j, none) :: l, H, h2, i, v, h => by
    rw [gt_cons] at h
    by_cases e : j = i
    · rw [if_pos e] at h; cases h
    · rw [if_neg e] at h; exact renSubH_gt (H' := l) h2 i v h
/-- The numbers of blocks that there are. -/
def liveK : AH → List Nat
  | [] => []
  | (b, some _) :: H => b :: liveK H
  | (_, none) :: H => liveK H
theorem liveK_of : ∀ {H : AH} {b : Nat}, gt H b ≠ none → b ∈ liveK H
  | [], b, h => absurd rfl h
  | (c, some u) :: H, b, h => by
    rw [gt_cons] at h
    by_cases e : c = b
    · simp [liveK, e]
    · rw [if_neg e] at h; simp only [liveK, List.mem_cons]; exact .inr (liveK_of h)
  | (c, none) :: H, b, h => by
    rw [gt_cons] at h
    by_cases e : c = b
    · rw [if_pos e] at h; exact absurd rfl h
    · rw [if_neg e] at h; exact liveK_of (H := H) h
def notin (σ : Nat → Nat) (n : Nat) : List Nat → Bool
  | [] => true
  | m :: l => !(n.beq (σ m)) && notin σ n l
def injL (σ : Nat → Nat) : List Nat → Bool
  | [] => true
  | m :: l => notin σ (σ m) l && injL σ l
/-- Other numbers of different blocks are different. -/
def injH (σ : Nat → Nat) (H : AH) : Bool := injL σ (liveK H)
theorem notin_of {σ : Nat → Nat} {n : Nat} : ∀ {l : List Nat}, notin σ n l = true → ∀ m ∈ l, n ≠ σ m
  | [], _, m, hm => by simp at hm
  | c :: l, h, m, hm => by
    have h' : (!(n.beq (σ c))) = true ∧ notin σ n l = true := by simpa only [notin, Bool.and_eq_true] using h
    rcases List.mem_cons.1 hm with rfl | hm
    · intro e
      have := h'.1
      rw [e] at this; simp at this
    · exact notin_of h'.2 m hm
theorem injL_of {σ : Nat → Nat} : ∀ {l : List Nat}, injL σ l = true → ∀ a ∈ l, ∀ b ∈ l, σ a = σ b → a = b
  | [], _, a, ha, _, _, _ => by simp at ha
  | c :: l, h, a, ha, b, hb, e => by
    have h' : notin σ (σ c) l = true ∧ injL σ l = true := by simpa only [injL, Bool.and_eq_true] using h
    rcases List.mem_cons.1 ha with e1 | ha'
    · rcases List.mem_cons.1 hb with e2 | hb'
      · rw [e1, e2]
      · rw [e1] at e; exact absurd e (notin_of h'.1 b hb')
    · rcases List.mem_cons.1 hb with e2 | hb'
      · rw [e2] at e; exact absurd e.symm (notin_of h'.1 a ha')
      · exact injL_of h'.2 a ha' b hb' e
theorem injH_of {σ : Nat → Nat} {H : AH} (h : injH σ H = true) {a b : Nat} (ha : gt H a ≠ none) (hb : gt H b ≠ none) (e : σ a = σ b) : a = b := injL_of h a (liveK_of ha) b (liveK_of hb) e
/-- Blocks get other numbers; those from a number on are forgotten. -/
theorem Gh_ren' {C : Ctx} {s : St} {T' : AT} {H' : AH} {df' : List Nat} {n : Nat} (σ : Nat → Nat) (hT : renSubT σ T' s.T) (hH : renSubH σ H' s.H) (bT : belbT n T' = true) (bH : belbH n H' = true)
    (hi : ∀ b b', gt H' b ≠ none → gt H' b' ≠ none → σ b = σ b' → b = b') (hdf : df'.map σ = s.df) (bd : ∀ b ∈ df', b < n) (hk : C.k0.ble n = true) (hb : ∀ b, b < C.k0 → σ b = b) : Gh C s ⟨T', H', n, df'⟩ := fun ρ Φ a w h => by
  have up : ∀ b x, b < n → ρ (σ b) = some x → (if b < n then ρ (σ b) else none) = some x := fun b x e1 e2 => by rw [if_pos e1]; exact e2
  have dn : ∀ b x, (if b < n then ρ (σ b) else none) = some x → b < n ∧ ρ (σ b) = some x := fun b x e => by
    split at e
    · rename_i e1; exact ⟨e1, e⟩
    · cases e
  have live : ∀ c, gt H' c ≠ none → c < n ∧ gt s.H (σ c) ≠ none := fun c hc => by
    cases e : gt H' c with
    | none => exact absurd e hc
    | some k => exact ⟨(belbH_gt bH c k e).1, by rw [renSubH_gt hH c k e]; simp⟩
  refine ⟨fun b => if b < n then ρ (σ b) else none, Φ, fun b hb => ?_, ⟨h.tm.size, fun i v hi => ?_⟩, ⟨fun b k hb => ?_, fun b b' x x' h1 h2 h3 h4 e => ?_, fun b x h1 h2 => ?_, fun b x h1 h2 => ?_, h.mem.frz, h.mem.keep⟩, h.df, h.fz, fun b h1 => ?_, Nat.le_of_ble_eq_true hk, h.dk⟩
  · have hb : (if b < n then ρ (σ b) else none) ≠ none := hb
    show b < n
    split at hb
    · assumption
    · exact absurd rfl hb
  · obtain ⟨x, e1, e2⟩ := h.tm.at_ i _ (renSubT_lk hT i v hi)
    exact ⟨x, Con.unren up v (belbT_lk bT i v hi) e1, e2⟩
  · obtain ⟨b1, b2⟩ := belbH_gt bH b k hb
    obtain ⟨x, o, e1, e2, e3⟩ := h.mem.at_ _ _ (renSubH_gt hH b k hb)
    exact ⟨x, o, up b x b1 e1, e2, e3.unren up b2⟩
  · have l1 := live b h1; have l2 := live b' h2
    exact hi b b' h1 h2 (h.mem.inj _ _ x x' l1.2 l2.2 (dn b x h3).2 (dn b' x' h4).2 e)
  · exact h.mem.free _ x (live b h1).2 (dn b x h2).2
  · exact h.mem.own _ x (live b h1).2 (dn b x h2).2
  · show (if b < n then ρ (σ b) else none) = _
    rw [if_pos (Nat.lt_of_lt_of_le h1 (Nat.le_of_ble_eq_true hk)), hb b h1]; exact h.base b h1
theorem Gh_ren {C : Ctx} {s : St} {T' : AT} {H' : AH} {df' : List Nat} {n : Nat} (σ : Nat → Nat) (hT : renSubT σ T' s.T) (hH : renSubH σ H' s.H) (bT : belbT n T' = true) (bH : belbH n H' = true)
    (hi : injH σ H' = true) (hdf : df'.map σ = s.df) (bd : ∀ b ∈ df', b < n) (hk : C.k0.ble n = true) (hb : ∀ b, b < C.k0 → σ b = b) : Gh C s ⟨T', H', n, df'⟩ :=
  Gh_ren' σ hT hH bT bH (fun _ _ h1 h2 e => injH_of hi h1 h2 e) hdf bd hk hb
mutual
theorem ren_id_v : ∀ (v : AV), v.ren id = v
  | .bool _ | .int _ _ | .str _ | .nilp | .nils | .nilm | .nilf | .nili | .rop _ _ | .ros _ _ _ | .rom _ | .ptr _ _ | .slice _ _ _ _ | .sliceo _ _ _ _ | .out _ _ _ | .mapl _ | .yld _ => rfl
  | .agg cs => by simp only [AV.ren, ren_id_L cs]
  | .tup cs => by simp only [AV.ren, ren_id_L cs]
  | .fn f a b => by simp only [AV.ren, ren_id_L a, ren_id_L b]
theorem ren_id_L : ∀ (l : List AV), renL id l = l
  | [] => rfl
  | v :: l => by simp only [renL, ren_id_v v, ren_id_L l]
end
theorem ren_id_T (l : AT) : renT id l = l := by
  induction l with
  | nil => rfl
  | cons v l ih => obtain ⟨i, v⟩ := v; simp [renT, ih, ren_id_v]
theorem ren_id_E (l : List (AV × AV × Nat)) : renE id l = l := by
  induction l with
  | nil => rfl
  | cons v l ih => obtain ⟨i, v, n⟩ := v; simp [renE, ih, ren_id_v]
theorem ren_id_B (k : ABlk) : k.ren id = k := by
  cases k <;> simp [ABlk.ren, ren_id_L, ren_id_T, ren_id_E, ren_id_v]
theorem renSubT_id : ∀ {T' T : AT}, subT T' T → renSubT id T' T
  | [], _, _ => trivial
  | (i, v) :: l, T, ⟨h1, h2⟩ => ⟨by rw [ren_id_v]; exact h1, renSubT_id h2⟩
theorem renSubH_id : ∀ {H' H : AH}, subH H' H → renSubH id H' H
  | [], _, _ => trivial
  | (i, some v) :: l, T, ⟨h1, h2⟩ => ⟨by rw [ren_id_B]; exact h1, renSubH_id h2⟩
  | (i, none) :: l, T, ⟨h1, h2⟩ => renSubH_id (H' := l) h2

/-- Blocks from a number on are forgotten. -/
theorem Gh_shrink {C : Ctx} {s : St} {T' : AT} {H' : AH} {n : Nat} (hT : subT T' s.T) (hH : subH H' s.H) (bT : belbT n T' = true) (bH : belbH n H' = true) (bd : ∀ b ∈ s.df, b < n) (hk : C.k0.ble n = true) : Gh C s ⟨T', H', n, s.df⟩ :=
  Gh_ren' id (renSubT_id hT) (renSubH_id hH) bT bH (fun _ _ _ _ e => e) (by simp) bd hk (fun _ _ => rfl)

/-! ### Loops -/
section
variable {C : Ctx} {c : Code} {Q : Exit → St → Prop} {T T' : AT} {H H' : AH} {nx nx' : Nat} {df : List Nat}
def againP (C : Ctx) (I : Nat → St → Prop) (n : Nat) (s : St) : Prop := ∃ s' m, Gh C s s' ∧ m < n ∧ I m s'
theorem Wloop (h : c.tag = 6) (I : Nat → St → Prop) {n : Nat} (h0 : I n ⟨T, H, nx, df⟩) (round : ∀ n s, I n s → WpA C c.l (thenQ (againP C I n) Q) s) : WpA C c Q ⟨T, H, nx, df⟩ :=
  W_loop h (fun n s => ∃ s', Gh C s s' ∧ I n s') ⟨_, Gh.refl, h0⟩ fun n s ⟨s', hg, hI⟩ => W_gh hg ((round n s' hI).mono fun e s hq => by
    cases e with
    | normal => obtain ⟨s'', m, h1, h2, h3⟩ := hq; exact ⟨m, h2, s'', h1, h3⟩
    | _ => exact hq)
theorem again {I : Nat → St → Prop} {n : Nat} (m : Nat) (hm : m < n) (hT : subT T' T) (hH : subH H' H) (hI : I m ⟨T', H', nx, df⟩) : againP C I n ⟨T, H, nx, df⟩ :=
  ⟨_, m, Gh_less (s := ⟨T, H, nx, df⟩) hT hH, hm, hI⟩
theorem againS {I : Nat → St → Prop} {n : Nat} (m : Nat) (hm : m < n) (hT : subT T' T) (hH : subH H' H) (bT : belbT nx' T' = true) (bH : belbH nx' H' = true) (bd : ∀ b ∈ df, b < nx') (hk : C.k0.ble nx' = true) (hI : I m ⟨T', H', nx', df⟩) : againP C I n ⟨T, H, nx, df⟩ :=
  ⟨_, m, Gh_shrink (s := ⟨T, H, nx, df⟩) hT hH bT bH bd hk, hm, hI⟩
theorem Wshrink (hT : subT T' T) (hH : subH H' H) (bT : belbT nx' T' = true) (bH : belbH nx' H' = true) (bd : ∀ b ∈ df, b < nx') (hk : C.k0.ble nx' = true) (k : WpA C c Q ⟨T', H', nx', df⟩) : WpA C c Q ⟨T, H, nx, df⟩ := W_gh (Gh_shrink (s := ⟨T, H, nx, df⟩) hT hH bT bH bd hk) k

/-- Blocks get other numbers. -/
theorem againR {I : Nat → St → Prop} {n : Nat} (σ : Nat → Nat) (m : Nat) (hm : m < n) (hT : renSubT σ T' T) (hH : renSubH σ H' H) (bT : belbT nx' T' = true) (bH : belbH nx' H' = true) (hi : injH σ H' = true) (hdf : df.map σ = df) (bd : ∀ b ∈ df, b < nx') (hk : C.k0.ble nx' = true) (hb : ∀ b, b < C.k0 → σ b = b) (hI : I m ⟨T', H', nx', df⟩) : againP C I n ⟨T, H, nx, df⟩ :=
  ⟨_, m, Gh_ren (s := ⟨T, H, nx, df⟩) σ hT hH bT bH hi hdf bd hk hb, hm, hI⟩
theorem Wren (σ : Nat → Nat) (hT : renSubT σ T' T) (hH : renSubH σ H' H) (bT : belbT nx' T' = true) (bH : belbH nx' H' = true) (hi : injH σ H' = true) (hdf : df.map σ = df) (bd : ∀ b ∈ df, b < nx') (hk : C.k0.ble nx' = true) (hb : ∀ b, b < C.k0 → σ b = b) (k : WpA C c Q ⟨T', H', nx', df⟩) : WpA C c Q ⟨T, H, nx, df⟩ :=
  W_gh (Gh_ren (s := ⟨T, H, nx, df⟩) σ hT hH bT bH hi hdf bd hk hb) k
/-- A block that is turned no more from now on. -/
theorem Wfr {cs : List AV} {t : TypeId} (b : Nat) (hg : gt H b = some (.cells cs t)) (hd : dataL cs) (hT : subT T' (frT b cs T)) (hH : subH H' ((b, none) :: frH b cs H)) (k : WpA C c Q ⟨T', H', nx, df⟩) : WpA C c Q ⟨T, H, nx, df⟩ :=
  W_gh (Gh_fr (s := ⟨T, H, nx, df⟩) hg hd hT hH) k
theorem againG {I : Nat → St → Prop} {n : Nat} {s' : St} (hg : Gh C ⟨T, H, nx, df⟩ s') (h : againP C I n s') : againP C I n ⟨T, H, nx, df⟩ := by
  obtain ⟨s'', m, h1, h2, h3⟩ := h; exact ⟨s'', m, hg.trans h1, h2, h3⟩
/-- Two numbers change places. -/
def swp (a b : Nat) (m : Nat) : Nat := if m.beq a then b else if m.beq b then a else m
/-! ### A scope without jumps -/
def noGo (Q : Exit → St → Prop) : Exit → St → Prop
  | .goto _, _ => False
  | e, s => Q e s
theorem tag_scope (h : c.tag = 9) : c = .scope c.l := by
  cases c
  case scope => rfl
  case region i o d => cases d <;> cases h
  all_goals cases h
theorem tag_label (h : c.tag = 10) : ∃ l, c = .label l := by
  cases c
  case label l => exact ⟨l, rfl⟩
  case region i o d => cases d <;> cases h
  all_goals cases h
theorem W_label {s : St} (h : c.tag = 10) (k : Q .normal s) : WpA C c Q s := by
  obtain ⟨l, rfl⟩ := tag_label h; exact fun ρ Φ a w hc => wpIn_label ⟨s, ρ, Φ, k, hc⟩
theorem stepR_scope {P : Program} {b : Frame} {a : Act} {k : List Item} {cs : List Frame} {w : World} {c : Code} : step P (lone (b.atR a (.code (.scope c) :: k)) cs w) = .next (lone (b.atR a (.code c :: .inScope c :: k)) cs w) :=
  step_lone_go (by simp [stepG, stepG.exec, Frame.atR])
theorem stepR_inScope {P : Program} {b : Frame} {a : Act} {k : List Item} {cs : List Frame} {w : World} {c : Code} : step P (lone (b.atR a (.inScope c :: k)) cs w) = .next (lone (b.atR a k) cs w) :=
  step_lone_go (by simp [stepG, stepG.exec, Frame.atR])
theorem W_scope {s : St} (h : c.tag = 9) (k : WpA C c.l (noGo Q) s) : WpA C c Q s := by
  rw [tag_scope h]
  intro ρ Φ a w hc b kk cs hro hb hr
  have h0 : (lone (b.atR a (.code (.scope c.l) :: kk)) cs w).fenced C.P C.F := fenced_calm hb hr rfl
  obtain ⟨e, a₁, w₁, ⟨s₁, ρ₁, Φ₁, hq, hc₁⟩, harr⟩ := k ρ Φ a w hc b (.inScope c.l :: kk) cs hro hb hr
  cases e with
  | normal => exact ⟨.normal, a₁, w₁, ⟨s₁, ρ₁, Φ₁, hq, hc₁⟩, .head h0 stepR_scope (StepsIn.trans harr (.one (fenced_calm hb hr rfl) stepR_inScope))⟩
  | exit id =>
    have hx : exitTo id (.inScope c.l :: kk) = exitTo id kk := by simp [exitTo]
    exact ⟨.exit id, a₁, w₁, ⟨s₁, ρ₁, Φ₁, hq, hc₁⟩, fun k' hk => .head h0 stepR_scope (harr.1 k' (by rw [hx]; exact hk)),
      fun hr' hk => let ⟨k₁, h1, h2⟩ := harr.2 hr' (by rw [hx]; exact hk); ⟨k₁, h1, .head h0 stepR_scope h2⟩⟩
  | goto l => exact hq.elim
  | ret => exact ⟨_, a₁, w₁, ⟨s₁, ρ₁, Φ₁, hq, hc₁⟩, .of_steps (.one h0 stepR_scope) harr⟩
  | panic ch => exact ⟨_, a₁, w₁, ⟨s₁, ρ₁, Φ₁, hq, hc₁⟩, .of_steps (.one h0 stepR_scope) harr⟩
  | outgrown => exact ⟨_, a₁, w₁, ⟨s₁, ρ₁, Φ₁, hq, hc₁⟩, .of_steps (.one h0 stepR_scope) harr⟩
theorem noGo_n {s : St} (h : Q .normal s) : noGo Q .normal s := h
theorem noGo_x {s : St} {i : Nat} (h : Q (.exit i) s) : noGo Q (.exit i) s := h
theorem noGo_r {s : St} (h : Q .ret s) : noGo Q .ret s := h
end

/-! ### How a function of data ends -/
section
variable {P : Program} {w0 : World} {Φ0 : Fz} {nt : Nat} {T : AT} {H : AH} {nx : Nat}
abbrev C0 (P : Program) (w0 : World) (Φ0 : Fz) (nt : Nat) : Ctx := ⟨P, w0, fun _ => False, Φ0, none, nt, 0, Env.nil⟩
theorem ret1 {t : Nat} {v res : AV} (h : lk T t = some v) (he : v = res) (hd : res.data) : retQ P w0 Φ0 nt [.tmp t] res .ret ⟨T, H, nx, []⟩ :=
  ⟨_, [v], Gh.refl, ⟨_, _, rfl, h, rfl⟩, he, hd⟩
theorem ret1n {t : Nat} {v res : AV} (h : lk T t = some v) (he : v = res) (hd : res.data) : retQ P w0 Φ0 nt [.tmp t] res .normal ⟨T, H, nx, []⟩ :=
  ⟨_, [v], Gh.refl, ⟨_, _, rfl, h, rfl⟩, he, hd⟩
theorem retC {t ty n b : Nat} {res : AV} {cs : List AV} {e : TypeId} [hT : TyVar P ty true n] (h : lk T t = some (.ptr b 0)) (hg : gt H b = some (.cells cs e)) (hl : cs.length = n) (he : .agg cs = res) (hd : res.data) : retQ P w0 Φ0 nt [.cell t ty] res .ret ⟨T, H, nx, []⟩ :=
  ⟨_, [.agg cs], Gh.refl, ⟨_, _, rfl, ⟨.ptr b 0, cs, 0, n, true, hT, h, by simp only [src, hg], by subst hl; simp [cellsAt]⟩, rfl⟩, he, hd⟩
end
end Go.AE
end

section
/- Abstract states, twelfth part: whether whole values are equal, copies, and how functions of several results end. -/
namespace Go.AE
open Go.RowKit

/-! ### Types of numbers alone -/
def flatF (P : Program) (g : TypeId → Option (List IntKind)) : List Field → Nat → Option (List IntKind)
  | [], _ => some []
  | f :: fs, o =>
    if f.name ≠ "_" ∧ f.offset = o then
      match g f.type with
      | some l => match flatF P g fs (o + l.length) with
        | some m => some (l ++ m)
        | none => none
      | none => none
    else none
/-- The kinds of the numbers of a type. -/
def flatT (P : Program) : Nat → TypeId → Option (List IntKind)
  | 0, _ => none
  | d + 1, t =>
    match P.underlying t with
    | some (.int k) => some [k]
    | some (.struct fs) => if P.stoodInHeld t = false ∧ P.cellsOf t = ((flatF P (flatT P d) fs.toList 0).getD []).length then flatF P (flatT P d) fs.toList 0 else none
    | some (.array n e) => match flatT P d e with
      | some l => if P.cellsOf t = (List.replicate n l).flatten.length ∧ P.cellsOf e = l.length then some (List.replicate n l).flatten else none
      | none => none
    | _ => none
def mkI (ks : List IntKind) (ns : List Int) : List Value := List.zipWith Value.int ks ns
theorem mkI_len {ks : List IntKind} {ns : List Int} (h : ns.length = ks.length) : (mkI ks ns).length = ks.length := by simp [mkI, h]
theorem mkI_app {k1 k2 : List IntKind} {ns : List Int} (h : ns.length = (k1 ++ k2).length) : mkI (k1 ++ k2) ns = mkI k1 (ns.take k1.length) ++ mkI k2 (ns.drop k1.length) := by
  unfold mkI
  conv => lhs; rw [← List.take_append_drop k1.length ns]
  rw [List.zipWith_append (by simp at h ⊢; omega)]

section
variable {P : Program}
/-- A part of a value is whole, and equality of two such parts is that of their numbers. -/
def EqS (P : Program) (d : Nat) (t : TypeId) (ks : List IntKind) : Prop :=
  ∀ (w : World) (X Y : Array Value) (off : Nat) (ns ms : List Int), ns.length = ks.length → ms.length = ks.length → (X.toList.drop off).take ks.length = mkI ks ns → (Y.toList.drop off).take ks.length = mkI ks ms →
    ∃ a b, (part t X off).run P w = .ok a w ∧ (part t Y off).run P w = .ok b w ∧ ∀ j, (Op.equalIn (d + j) t a b).run P w = .ok (decide (ns = ms)) w
theorem dec_app {n1 n2 m1 m2 : List Int} (h : n1.length = m1.length) : decide (n1 ++ n2 = m1 ++ m2) = (decide (n1 = m1) && decide (n2 = m2)) := by
  have : (n1 ++ n2 = m1 ++ m2) ↔ n1 = m1 ∧ n2 = m2 := ⟨fun e => List.append_inj e h, fun ⟨a, b⟩ => by rw [a, b]⟩
  rw [Bool.eq_iff_iff, decide_eq_true_iff, Bool.and_eq_true, decide_eq_true_iff, decide_eq_true_iff]; exact this
theorem take_drop_app {α : Type} {L : List α} {o a b : Nat} {u v : List α} (h : (L.drop o).take (a + b) = u ++ v) (hu : u.length = a) : (L.drop o).take a = u ∧ (L.drop (o + a)).take b = v := by
  constructor
  · have e : (L.drop o).take a = ((L.drop o).take (a + b)).take a := by rw [List.take_take, Nat.min_eq_left (Nat.le_add_right a b)]
    rw [e, h, ← hu]; simp
  · have e : (L.drop (o + a)).take b = ((L.drop o).take (a + b)).drop a := by rw [List.drop_take, List.drop_drop, Nat.add_sub_cancel_left]
    rw [e, h, ← hu]; simp
theorem flatF_run {d : Nat} {g : TypeId → Option (List IntKind)} (IH : ∀ t ks, g t = some ks → EqS P d t ks) (j : Nat) {X Y : Array Value} {w : World} : ∀ (fs : List Field) (o : Nat) (ks : List IntKind) (ns ms : List Int), flatF P g fs o = some ks → ns.length = ks.length → ms.length = ks.length →
    (X.toList.drop o).take ks.length = mkI ks ns → (Y.toList.drop o).take ks.length = mkI ks ms → (Op.eqFields (d + j) X Y fs).run P w = .ok (decide (ns = ms)) w
  | [], o, ks, ns, ms, h, h1, h2, _, _ => by
    simp only [flatF] at h; cases h
    have e1 := List.length_eq_zero_iff.1 h1; have e2 := List.length_eq_zero_iff.1 h2
    subst e1; subst e2; simp [Op.eqFields]
  | f :: fs, o, ks, ns, ms, h, h1, h2, h3, h4 => by
    simp only [flatF] at h
    split at h
    · rename_i hf
      split at h
      · rename_i l hl
        split at h
        · rename_i m hm
          cases h
          rw [mkI_app h1] at h3; rw [mkI_app h2] at h4
          have n1 : (ns.take l.length).length = l.length := by simp at h1 ⊢; omega
          have m1 : (ms.take l.length).length = l.length := by simp at h2 ⊢; omega
          rw [List.length_append] at h3 h4
          obtain ⟨a1, a2⟩ := take_drop_app h3 (mkI_len n1)
          obtain ⟨b1, b2⟩ := take_drop_app h4 (mkI_len m1)
          obtain ⟨a, b, p1, p2, p3⟩ := IH f.type l hl w X Y o (ns.take l.length) (ms.take l.length) n1 m1 a1 b1
          have hrr := flatF_run IH j fs (o + l.length) m (ns.drop l.length) (ms.drop l.length) hm (by simp at h1 ⊢; omega) (by simp at h2 ⊢; omega) a2 b2 (w := w)
          have e : decide (ns = ms) = (decide (ns.take l.length = ms.take l.length) && decide (ns.drop l.length = ms.drop l.length)) := by
            rw [← dec_app (by rw [n1, m1]), List.take_append_drop, List.take_append_drop]
          rw [e]
          simp only [Op.eqFields, hf.1, ne_eq, not_false_eq_true, if_true, Sem.run_bind, hf.2, p1, p2, p3, Result.andThen_ok]
          by_cases hc : ns.take l.length = ms.take l.length
          · simp [hc, hrr]
          · simp [hc]
        · cases h
      · cases h
    · cases h
theorem flatA_run {d : Nat} {t : TypeId} {l : List IntKind} (IH : EqS P d t l) (hc : P.cellsOf t = l.length) (j : Nat) {X Y : Array Value} {w : World} : ∀ (n a : Nat) (ns ms : List Int), ns.length = (List.replicate n l).flatten.length → ms.length = (List.replicate n l).flatten.length →
    (X.toList.drop (a * l.length)).take (List.replicate n l).flatten.length = mkI (List.replicate n l).flatten ns → (Y.toList.drop (a * l.length)).take (List.replicate n l).flatten.length = mkI (List.replicate n l).flatten ms → (Op.eqItems (d + j) t (P.cellsOf t) X Y (List.range' a n)).run P w = .ok (decide (ns = ms)) w
  | 0, a, ns, ms, h1, h2, _, _ => by
    have e1 := List.length_eq_zero_iff.1 h1; have e2 := List.length_eq_zero_iff.1 h2
    subst e1; subst e2; simp [Op.eqItems]
  | n + 1, a, ns, ms, h1, h2, h3, h4 => by
    rw [List.replicate_succ, List.flatten_cons] at h1 h2 h3 h4
    rw [mkI_app h1] at h3; rw [mkI_app h2] at h4
    have n1 : (ns.take l.length).length = l.length := by simp at h1 ⊢; omega
    have m1 : (ms.take l.length).length = l.length := by simp at h2 ⊢; omega
    rw [List.length_append] at h3 h4
    obtain ⟨a1, a2⟩ := take_drop_app h3 (mkI_len n1)
    obtain ⟨b1, b2⟩ := take_drop_app h4 (mkI_len m1)
    obtain ⟨x, y, p1, p2, p3⟩ := IH w X Y (a * l.length) (ns.take l.length) (ms.take l.length) n1 m1 a1 b1
    have hrr := flatA_run IH hc j n (a + 1) (ns.drop l.length) (ms.drop l.length) (by rw [List.length_drop, h1, List.length_append]; omega) (by rw [List.length_drop, h2, List.length_append]; omega) (by rw [Nat.add_mul, Nat.one_mul]; exact a2) (by rw [Nat.add_mul, Nat.one_mul]; exact b2) (w := w)
    have e : decide (ns = ms) = (decide (ns.take l.length = ms.take l.length) && decide (ns.drop l.length = ms.drop l.length)) := by
      rw [← dec_app (by rw [n1, m1]), List.take_append_drop, List.take_append_drop]
    rw [e]
    rw [hc] at hrr
    simp only [List.range'_succ, Op.eqItems, Sem.run_bind, hc, p1, p2, p3, Result.andThen_ok]
    by_cases hcc : ns.take l.length = ms.take l.length
    · simp [hcc, hrr]
    · simp [hcc]
theorem extract_eq {X : Array Value} {off n : Nat} : (X.extract off (off + n)).toList = (X.toList.drop off).take n := by
  rw [Array.toList_extract]; simp [List.extract_eq_take_drop]
theorem flat_ok : ∀ (d : Nat) (t : TypeId) (ks : List IntKind), flatT P d t = some ks → EqS P d t ks
  | 0, t, ks, h => by cases h
  | d + 1, t, ks, h => by
    intro w X Y off ns ms h1 h2 h3 h4
    unfold flatT at h
    cases hu : P.underlying t with
    | none => simp [hu] at h
    | some td =>
      obtain ⟨i, hi⟩ := info_of_underlying hu
      rw [hu] at h
      cases td
      case int k =>
        simp only at h; cases h
        match ns, ms, h1, h2 with
        | [n], [m], _, _ =>
          have e1 : X[off]? = some (.int k n) := by
            have := congrArg (fun l => l[0]?) h3; simpa [mkI] using this
          have e2 : Y[off]? = some (.int k m) := by
            have := congrArg (fun l => l[0]?) h4; simpa [mkI] using this
          refine ⟨.int k n, .int k m, by simp [part, isAgg, run_underlying hu, e1], by simp [part, isAgg, run_underlying hu, e2], fun j => ?_⟩
          rw [show d + 1 + j = (d + j) + 1 by omega, run_equalIn_int _ _ t k k n m hu]
          congr 1; rw [Bool.eq_iff_iff]; simp
      case struct fs =>
        simp only at h
        split at h
        · rename_i hh
          rw [h] at hh
          have hsz : (Go.sizeOf t).run P w = .ok ks.length w := by rw [run_sizeOf w hi]; rw [hh.2]; rfl
          refine ⟨.agg (X.extract off (off + ks.length)), .agg (Y.extract off (off + ks.length)), by simp [part, isAgg, run_underlying hu, hsz], by simp [part, isAgg, run_underlying hu, hsz], fun j => ?_⟩
          have hfs : P.fieldsOf t = fs := by simp [Program.fieldsOf, hu]
          rw [show d + 1 + j = (d + j) + 1 by omega, run_equalIn_struct w (d + j) t _ _ (by rw [hfs]; exact hu) hh.1, hfs]
          refine flatF_run (fun t ks h => flat_ok d t ks h) j fs.toList 0 ks ns ms h h1 h2 ?_ ?_
          · rw [extract_eq, List.drop_zero, List.take_take, Nat.min_self]; exact h3
          · rw [extract_eq, List.drop_zero, List.take_take, Nat.min_self]; exact h4
        · cases h
      case array n e =>
        simp only at h
        split at h
        · rename_i l hl
          split at h
          · rename_i hh
            cases h
            have hsz : (Go.sizeOf t).run P w = .ok (List.replicate n l).flatten.length w := by rw [run_sizeOf w hi, hh.1]
            refine ⟨.agg (X.extract off (off + (List.replicate n l).flatten.length)), .agg (Y.extract off (off + (List.replicate n l).flatten.length)), by simp only [part, isAgg, run_underlying hu, hsz, Sem.run_bind, Result.andThen_ok, Sem.run_pure, if_true], by simp only [part, isAgg, run_underlying hu, hsz, Sem.run_bind, Result.andThen_ok, Sem.run_pure, if_true], fun j => ?_⟩
            have hie : ∃ i, P.info? e = some i := by
              cases d with
              | zero => cases hl
              | succ d =>
                unfold flatT at hl
                cases hue : P.underlying e with
                | none => simp [hue] at hl
                | some _ => exact info_of_underlying hue
            obtain ⟨ie, hie⟩ := hie
            rw [show d + 1 + j = (d + j) + 1 by omega, run_equalIn_array w (d + j) _ _ hu hie, List.range_eq_range']
            refine flatA_run (flat_ok d e l hl) hh.2 j n 0 ns ms h1 h2 ?_ ?_
            · rw [Nat.zero_mul, extract_eq, List.drop_zero, List.take_take, Nat.min_self]; exact h3
            · rw [Nat.zero_mul, extract_eq, List.drop_zero, List.take_take, Nat.min_self]; exact h4
          · cases h
        · cases h
      all_goals (simp at h; done)
end

/-- A type of numbers alone, a struct or an array. -/
class TyEq (P : Program) (t : TypeId) (ks : outParam (List IntKind)) : Prop where
  ok : flatT P 9 t = some ks
  guard : P.eqGuardType P.depth t = false
  agg : (match P.underlying t with | some (.array _ _) | some (.struct _) => true | _ => false) = true
theorem TyEq.run {P : Program} {t : TypeId} {ks : List IntKind} (h : TyEq P t ks) {ns ms : List Int} (h1 : ns.length = ks.length) (h2 : ms.length = ks.length) (w : World) :
    (Op.equal t (.agg (mkI ks ns).toArray) (.agg (mkI ks ms).toArray)).run P w = .ok (decide (ns = ms)) w := by
  obtain ⟨a, b, e1, e2, e3⟩ := flat_ok 9 t ks h.ok w (mkI ks ns).toArray (mkI ks ms).toArray 0 ns ms h1 h2 (by rw [List.drop_zero, List.take_of_length_le (by simp [mkI_len h1])]) (by rw [List.drop_zero, List.take_of_length_le (by simp [mkI_len h2])])
  have key : ∀ ns : List Int, ns.length = ks.length → ∀ a, (part t (mkI ks ns).toArray 0).run P w = .ok a w → a = .agg (mkI ks ns).toArray := by
    intro ns h1 a e1
    have hag : (isAgg t).run P w = .ok true w := by
      have := h.agg
      split at this
      · rename_i n e hu; simp [isAgg, run_underlying hu]
      · rename_i fs hu; simp [isAgg, run_underlying hu]
      · cases this
    have hsz : (Go.sizeOf t).run P w = .ok ks.length w := by
      have hk := h.ok
      unfold flatT at hk
      cases hu : P.underlying t with
      | none => rw [hu] at hk; cases hk
      | some td =>
        obtain ⟨i, hi⟩ := info_of_underlying hu
        rw [run_sizeOf w hi]
        rw [hu] at hk
        have hag := h.agg; rw [hu] at hag
        cases td <;> simp only [Bool.false_eq_true] at hag
        · simp only at hk
          split at hk
          · split at hk
            · rename_i hh; cases hk; rw [hh.1]
            · cases hk
          · cases hk
        · simp only at hk
          split at hk
          · rename_i hh; rw [hk] at hh; rw [hh.2]; rfl
          · cases hk
    simp only [part, hag, hsz, Sem.run_bind, Result.andThen_ok, if_true, Sem.run_pure] at e1
    cases e1
    congr 1
    apply Array.ext'
    rw [extract_eq, List.drop_zero, List.take_of_length_le (by simp [mkI_len h1])]
  rw [key ns h1 a e1, key ms h2 b e2] at e3
  exact e3 9991
/-- The numbers of cells. -/
def numsOf : List AV → Option (List Int)
  | [] => some []
  | .int _ n :: l => match numsOf l with
    | some m => some (n :: m)
    | none => none
  | _ => none
def kindsA : List AV → List IntKind
  | .int k _ :: l => k :: kindsA l
  | _ => []
theorem numsOf_con {ρ : Env} {Φ : Fz} {w : World} : ∀ {cs : List AV} {ns : List Int} {xs : List Value}, numsOf cs = some ns → ConL ρ Φ w cs xs → xs = mkI (kindsA cs) ns ∧ ns.length = (kindsA cs).length
  | [], ns, xs, h, k => by simp only [numsOf] at h; cases h; simp only [ConL] at k; subst k; exact ⟨rfl, rfl⟩
  | .int k n :: l, ns, xs, h, c => by
    simp only [numsOf] at h
    split at h
    · rename_i m hm
      cases h
      obtain ⟨y, ys, rfl, h1, h2⟩ := conL_inv c
      obtain ⟨e1, e2⟩ := numsOf_con hm h2
      have hy : y = .int k n := by simpa only [Con] using h1
      subst hy; subst e1
      exact ⟨rfl, by simp [kindsA, e2]⟩
    · cases h
theorem numsOf_agg {ρ : Env} {Φ : Fz} {w : World} {cs : List AV} {ns : List Int} {x : Value} (h : numsOf cs = some ns) (k : Con ρ Φ w (.agg cs) x) : x = .agg (mkI (kindsA cs) ns).toArray ∧ ns.length = (kindsA cs).length := by
  simp only [Con] at k
  obtain ⟨xs, h1, h2⟩ := k
  obtain ⟨e1, e2⟩ := numsOf_con h h1
  exact ⟨by rw [h2, e1], e2⟩

section ops
variable {C : Ctx} {T : AT} {H : AH} {nx : Nat} {d : Option Tmp} {ty : TypeId} {pos : String} {after : Array Edge} {g : Option (Nat × Bool)}
theorem U_eqlA {t t' : TypeId} {x y : Operand} {cs ds : List AV} {ks : List IntKind} {ns ms : List Int} {p : Prop} [Decidable p] [hT : TyEq C.P t ks] (hx : ev T x = some (.agg cs)) (hy : ev T y = some (.agg ds)) (h1 : numsOf cs = some ns) (h2 : numsOf ds = some ms) (k1 : kindsA cs = ks) (k2 : kindsA ds = ks) (hp : (ns = ms) ↔ p) :
    OpU C ⟨d, .binOp .eql t x y t', ty, pos, after, g⟩ T H nx (.bool (decide p)) [] nx :=
  OpU.of_value (by intro c; simp) fun ρ Φ a w h3 _ => by
    obtain ⟨e1, e2⟩ := numsOf_agg h1 (ev_con h3 hx)
    obtain ⟨e3, e4⟩ := numsOf_agg h2 (ev_con h3 hy)
    rw [k1] at e1 e2; rw [k2] at e3 e4
    refine ⟨.bool (decide p), ?_, mk_bool⟩
    have := hT.run e2 e4 w
    have hdec : decide (ns = ms) = decide p := decide_eq_decide.2 hp
    simp only [execOp, e1, e3, Sem.run_bind, run_eqGuard_agg w _ t _ _ _ _ hT.guard, Result.andThen_ok, run_eql_struct]
    rw [show (Op.equalIn 10000 t (.agg (mkI ks ns).toArray) (.agg (mkI ks ms).toArray)).run C.P w = .ok (decide (ns = ms)) w from this, hdec]; rfl
theorem U_neqA {t t' : TypeId} {x y : Operand} {cs ds : List AV} {ks : List IntKind} {ns ms : List Int} {p : Prop} [Decidable p] [hT : TyEq C.P t ks] (hx : ev T x = some (.agg cs)) (hy : ev T y = some (.agg ds)) (h1 : numsOf cs = some ns) (h2 : numsOf ds = some ms) (k1 : kindsA cs = ks) (k2 : kindsA ds = ks) (hp : (ns = ms) ↔ p) :
    OpU C ⟨d, .binOp .neq t x y t', ty, pos, after, g⟩ T H nx (.bool (decide (¬ p))) [] nx :=
  OpU.of_value (by intro c; simp) fun ρ Φ a w h3 _ => by
    obtain ⟨e1, e2⟩ := numsOf_agg h1 (ev_con h3 hx)
    obtain ⟨e3, e4⟩ := numsOf_agg h2 (ev_con h3 hy)
    rw [k1] at e1 e2; rw [k2] at e3 e4
    refine ⟨.bool (decide (¬ p)), ?_, mk_bool⟩
    have := hT.run e2 e4 w
    have hdec : decide (ns = ms) = decide p := decide_eq_decide.2 hp
    simp only [execOp, e1, e3, Sem.run_bind, run_eqGuard_agg w _ t _ _ _ _ hT.guard, Result.andThen_ok, run_neq_struct]
    rw [show (Op.equalIn 10000 t (.agg (mkI ks ns).toArray) (.agg (mkI ks ms).toArray)).run C.P w = .ok (decide (ns = ms)) w from this, hdec]
    simp
class TyBool (P : Program) (t : TypeId) : Prop where
  un : P.underlying t = some .bool
theorem U_eqlB {t t' : TypeId} {x y : Operand} {a b : Bool} [hT : TyBool C.P t] (hx : ev T x = some (.bool a)) (hy : ev T y = some (.bool b)) : OpU C ⟨d, .binOp .eql t x y t', ty, pos, after, g⟩ T H nx (.bool (decide (a = b))) [] nx :=
  OpU.of_value (by intro c; simp) fun ρ Φ ac w h2 _ => ⟨.bool (decide (a = b)), by
    simp [execOp, con_bool (ev_con h2 hx), con_bool (ev_con h2 hy), eqGuard, binOp, Op.equal, Op.maxDepth, run_equalIn_bool w 9999 t a b hT.un]
    cases a <;> cases b <;> rfl, mk_bool⟩
theorem U_neqB {t t' : TypeId} {x y : Operand} {a b : Bool} [hT : TyBool C.P t] (hx : ev T x = some (.bool a)) (hy : ev T y = some (.bool b)) : OpU C ⟨d, .binOp .neq t x y t', ty, pos, after, g⟩ T H nx (.bool (decide (a ≠ b))) [] nx :=
  OpU.of_value (by intro c; simp) fun ρ Φ ac w h2 _ => ⟨.bool (decide (a ≠ b)), by
    simp [execOp, con_bool (ev_con h2 hx), con_bool (ev_con h2 hy), eqGuard, binOp, Op.equal, Op.maxDepth, run_equalIn_bool w 9999 t a b hT.un]
    cases a <;> cases b <;> rfl, mk_bool⟩
end ops

/-! ### The end of a function of several results -/
section
variable {P : Program} {w0 : World} {Φ0 : Fz} {nt : Nat} {T : AT} {H : AH} {nx : Nat}
theorem retL {rs : List ResultVar} {vs : List AV} {res : AV} (h : ResL P ⟨T, H, nx, []⟩ rs vs) (he : packA vs = res) (hd : res.data) : retQ P w0 Φ0 nt rs res .ret ⟨T, H, nx, []⟩ := ⟨_, vs, Gh.refl, h, he, hd⟩
theorem retLn {rs : List ResultVar} {vs : List AV} {res : AV} (h : ResL P ⟨T, H, nx, []⟩ rs vs) (he : packA vs = res) (hd : res.data) : retQ P w0 Φ0 nt rs res .normal ⟨T, H, nx, []⟩ := ⟨_, vs, Gh.refl, h, he, hd⟩
theorem rl0 {s : St} : ResL P s [] [] := rfl
theorem rlT {s : St} {t : Nat} {v : AV} {rs : List ResultVar} {vs : List AV} (h : lk s.T t = some v) (k : ResL P s rs vs) : ResL P s (.tmp t :: rs) (v :: vs) := ⟨v, vs, rfl, h, k⟩
theorem rlA {s : St} {t ty n b : Nat} {cs : List AV} {e : TypeId} {rs : List ResultVar} {vs : List AV} [hT : TyVar P ty true n] (h : lk s.T t = some (.ptr b 0)) (hg : gt s.H b = some (.cells cs e)) (hl : cs.length = n) (k : ResL P s rs vs) : ResL P s (.cell t ty :: rs) (.agg cs :: vs) :=
  ⟨_, vs, rfl, ⟨.ptr b 0, cs, 0, n, true, hT, h, by simp only [src, hg], by subst hl; simp [cellsAt]⟩, k⟩
theorem rlC {s : St} {t ty n b : Nat} {v : AV} {e : TypeId} {rs : List ResultVar} {vs : List AV} [hT : TyVar P ty false n] (h : lk s.T t = some (.ptr b 0)) (hg : gt s.H b = some (.cells [v] e)) (k : ResL P s rs vs) : ResL P s (.cell t ty :: rs) (v :: vs) :=
  ⟨_, vs, rfl, ⟨.ptr b 0, [v], 0, n, false, hT, h, by simp only [src, hg], rfl⟩, k⟩
end
end Go.AE
end

section
/- Abstract states, thirteenth part: contracts of functions that turn blocks of their callers'. -/
namespace Go.AE
open Go.RowKit

/-- The concrete blocks that are turned, perhaps. -/
def live (H : AH) (ρ : Env) (r : Nat) : Prop := ∃ b x, gt H b ≠ none ∧ ρ b = some x ∧ x.1 = r
/-- What a call leaves that was handed blocks 0 .. k. -/
def RetM (k : Nat) (H0 : AH) (res : AV) (H1 : AH) (n1 : Nat) (ρ : Env) (Φ : Fz) (w : World) (e : Ending) (w' : World) : Prop :=
  ∃ x ρ' Φ', e = .returned x ∧ Con ρ' Φ' w' res x ∧ k ≤ n1 ∧ (∀ b, ρ' b ≠ none → b < n1) ∧ (∀ b, b < k → ρ' b = ρ b) ∧ Mem (live H0 ρ) w ρ' Φ' (gt H1) w' ∧ Φ.le Φ' ∧ (∀ r, Φ' r → Φ r ∨ w.heap.size ≤ r ∨ live H0 ρ r) ∧ Dk Φ w Φ' w'
/-- A function that is handed blocks 0 .. k, and may turn them. -/
def MutP (P : Program) (f : FuncId) (args : List AV) (H0 : AH) (k : Nat) (res : AV) (H1 : AH) (n1 : Nat) : Prop :=
  ∀ (ρ : Env) (Φ : Fz) (w : World) (xs : List Value), (∀ b, ρ b ≠ none → b < k) → Mem (live H0 ρ) w ρ Φ (gt H0) w → ConL ρ Φ w args xs → Calls P f xs.toArray w (RetM k H0 res H1 n1 ρ Φ w)

/-- What a body must come to. -/
def retMQ (C : Ctx) (rs : List ResultVar) (res : AV) (H1 : AH) (n1 : Nat) : Exit → St → Prop
  | .normal, s | .ret, s => ∃ T' vs, Gh C s ⟨T', H1, n1, []⟩ ∧ ResL C.P ⟨T', H1, n1, []⟩ rs vs ∧ packA vs = res
  | _, _ => False
theorem mut_of_body {P : Program} {f : FuncId} {fn : Func} {c : Code} (hf : P.funcs[f]? = some fn) (hb : fn.body = some c) {args : List AV} {H0 H1 : AH} {k n1 : Nat} {res : AV} (hk : k ≤ n1) (hn : args.length ≤ fn.ntmps)
    (h : ∀ w0 Φ0 ρ0, WpA ⟨P, w0, live H0 ρ0, Φ0, none, fn.ntmps, k, ρ0⟩ c (retMQ ⟨P, w0, live H0 ρ0, Φ0, none, fn.ntmps, k, ρ0⟩ fn.results.toList res H1 n1) ⟨argT 0 args, H0, k, []⟩) : MutP P f args H0 k res H1 n1 := by
  intro ρ Φ w xs hρ hm hargs
  have hlen := conL_len hargs
  refine (callsIn_wide (n := 0)).1 (callsIn_of_wp_marks hf hb trivial ?_ rfl)
  have hc : Conc ⟨P, w, live H0 ρ, Φ, none, fn.ntmps, k, ρ⟩ ⟨argT 0 args, H0, k, []⟩ ρ Φ { tmps := xs.toArray ++ Array.replicate (fn.ntmps - xs.toArray.size) undef, defers := [] } w := by
    refine ⟨hρ, ⟨by simp; omega, fun i v hi => ?_⟩, hm, Coll.nil _ _ _, ⟨fun _ h => .inl h, Fz.le_refl _⟩, fun _ _ => rfl, Nat.le_refl _, Dk.refl _ _⟩
    obtain ⟨_, h2⟩ := argT_lk args 0 i v hi
    obtain ⟨y, hy, hy2⟩ := conL_get hargs i v (by simpa using h2)
    exact ⟨y, hy, by obtain ⟨hl, e⟩ := List.getElem?_eq_some_iff.1 hy2; simp [Array.getElem?_append, hl, e]⟩
  refine wpIn_mono (h w Φ ρ ρ Φ _ w hc) ?_
  rintro e a' w' ⟨s', ρ', Φ', hq, hc'⟩
  have fin : ∀ e', (e' = Exit.normal ∨ e' = .ret) → (∃ T' vs, Gh ⟨P, w, live H0 ρ, Φ, none, fn.ntmps, k, ρ⟩ s' ⟨T', H1, n1, []⟩ ∧ ResL P ⟨T', H1, n1, []⟩ fn.results.toList vs ∧ packA vs = res) → bodyPostM Fence.wide 0 P fn (RetM k H0 res H1 n1 ρ Φ w) e' a' w' := by
    rintro e' he ⟨T', vs, hg, hr, hp⟩
    obtain ⟨ρ'', Φ'', hc''⟩ := hg ρ' Φ' a' w' hc'
    obtain ⟨ys, hd1, hd2, hd3⟩ := hc''.df
    have : LeavesInM Fence.wide 0 P fn a'.tmps (RetM k H0 res H1 n1 ρ Φ w) a'.defers .returning w' := by
      rw [hd1]
      refine leaves_of (C := ⟨P, w, live H0 ρ, Φ, none, fn.ntmps, k, ρ⟩) ys rfl hc'' hd2 hd3 fun a2 w2 ht hc2 => ?_
      obtain ⟨x, hx1, hx2⟩ := results_run hc2 hr
      exact ⟨x, ht ▸ hx1, x, ρ'', Φ'', rfl, hp ▸ hx2, hk, hc2.dom, hc2.base, hc2.mem, hc2.fz.2, hc2.fz.1, hc2.dk⟩
    rcases he with rfl | rfl <;> exact this
  cases e with
  | normal => exact fin _ (.inl rfl) hq
  | ret => exact fin _ (.inr rfl) hq
  | exit i => exact hq.elim
  | goto l => exact hq.elim
  | panic ch => exact hq.elim
  | outgrown => exact hq.elim

/-! ### The call -/
def renH (σ : Nat → Nat) : AH → AH
  | [] => []
  | (b, k) :: H => (σ b, k.map (ABlk.ren σ)) :: renH σ H
def deadH (σ : Nat → Nat) : AH → AH
  | [] => []
  | (b, _) :: H => (σ b, none) :: deadH σ H
/-- The callee's numbers, as the caller's. -/
def sigM (τ : Nat → Nat) (k nx : Nat) (b : Nat) : Nat := bif b.blt k then τ b else nx + (b - k)
theorem sigM_lt {τ : Nat → Nat} {k nx b : Nat} (h : b < k) : sigM τ k nx b = τ b := by
  unfold sigM; rw [show b.blt k = true from by rw [Nat.blt_eq]; exact h]; rfl
theorem sigM_ge {τ : Nat → Nat} {k nx b : Nat} (h : k ≤ b) : sigM τ k nx b = nx + (b - k) := by
  unfold sigM
  have : b.blt k = false := by
    cases e : b.blt k with
    | false => rfl
    | true => have := ltOf e; omega
  rw [this]; rfl
theorem gt_renH {σ : Nat → Nat} (hσ : ∀ a b, σ a = σ b → a = b) (L : AH) : ∀ (H : AH) (b : Nat), gt (renH σ H ++ L) (σ b) = if b ∈ H.map (·.1) then (gt H b).map (ABlk.ren σ) else gt L (σ b)
  | [], b => by simp [renH]
  | (c, k) :: H, b => by
    simp only [renH, List.cons_append, gt_cons, List.map_cons, List.mem_cons]
    by_cases e : c = b
    · subst e; simp
    · rw [if_neg (fun h => e (hσ _ _ h)), gt_renH hσ L H b]
      have e' : (b = c ∨ b ∈ H.map (·.1)) ↔ b ∈ H.map (·.1) := ⟨fun h => h.elim (fun h => absurd h.symm e) id, .inr⟩
      by_cases h : b ∈ H.map (·.1)
      · rw [if_pos h, if_pos (e'.2 h), if_neg e]
      · rw [if_neg h, if_neg (fun k => h (e'.1 k))]
theorem gt_renH_out {σ : Nat → Nat} (L : AH) : ∀ (H : AH) (m : Nat), (∀ b ∈ H.map (·.1), σ b ≠ m) → gt (renH σ H ++ L) m = gt L m
  | [], m, _ => rfl
  | (c, k) :: H, m, h => by
    simp only [renH, List.cons_append, gt_cons]
    rw [if_neg (h c (by simp))]; exact gt_renH_out L H m fun b hb => h b (by simp only [List.map_cons, List.mem_cons]; exact .inr hb)
theorem gt_deadH {σ : Nat → Nat} (L : AH) : ∀ (H : AH) (m : Nat), gt (deadH σ H ++ L) m = none ∨ (gt (deadH σ H ++ L) m = gt L m ∧ ∀ b ∈ H.map (·.1), σ b ≠ m)
  | [], m => .inr ⟨rfl, by simp⟩
  | (c, k) :: H, m => by
    simp only [deadH, List.cons_append, gt_cons]
    by_cases e : σ c = m
    · rw [if_pos e]; exact .inl rfl
    · rw [if_neg e]
      rcases gt_deadH L H m with h | ⟨h1, h2⟩
      · exact .inl h
      · refine .inr ⟨h1, fun b hb => ?_⟩
        simp only [List.map_cons, List.mem_cons] at hb
        rcases hb with rfl | hb
        · exact e
        · exact h2 b hb
theorem keys_renH {σ : Nat → Nat} : ∀ (H : AH), (renH σ H).map (·.1) = (H.map (·.1)).map σ
  | [] => rfl
  | (c, k) :: H => by simp [renH, keys_renH H]
theorem keys_deadH {σ : Nat → Nat} : ∀ (H : AH), (deadH σ H).map (·.1) = (H.map (·.1)).map σ
  | [] => rfl
  | (c, k) :: H => by simp [deadH, keys_deadH H]
theorem gt_key : ∀ {H : AH} {b : Nat}, gt H b ≠ none → b ∈ H.map (·.1)
  | [], b, h => absurd rfl h
  | (c, k) :: H, b, h => by
    rw [gt_cons] at h
    by_cases e : c = b
    · simp [e]
    · rw [if_neg e] at h; simp only [List.map_cons, List.mem_cons]; exact .inr (gt_key h)

section
variable {C : Ctx} {T : AT} {H : AH} {nx : Nat} {d : Option Tmp} {ty : TypeId} {pos : String} {after : Array Edge} {g : Option (Nat × Bool)}
theorem callM {f : FuncId} {al a0 : List AV} {xl : List Value} {H0 H1 : AH} {k n1 : Nat} {res : AV} (τ : Nat → Nat) (hP : MutP C.P f a0 H0 k res H1 n1)
    (ha : al = renL τ a0) (hba : belbL k a0 = true) (hX : ∀ b q, gt H0 b = some q → gt H (τ b) = some (q.ren τ) ∧ b < k ∧ q.belb k = true) (hi : ∀ b b', b < k → b' < k → τ b = τ b' → b = b') (hlt : ∀ b, b < k → τ b < nx) :
    ∀ (ρ : Env) (Φ : Fz) (w : World), (∀ b, nx ≤ b → b < nx + (n1 - k) → ρ b = none) → Mem C.Wr C.w0 ρ Φ (gt H) w → ConL ρ Φ w al xl →
      Calls C.P f xl.toArray w fun e w' => ∃ y ρ' Φ', e = .returned y ∧ Post C.Wr C.w0 ρ Φ w nx (nx + (n1 - k)) ((renH (sigM τ k nx) H1 ++ deadH (sigM τ k nx) H0).map (·.1)) (gt (renH (sigM τ k nx) H1 ++ deadH (sigM τ k nx) H0 ++ H)) ρ' Φ' w' ∧ Con ρ' Φ' w' (res.ren (sigM τ k nx)) y := fun ρ Φ w h1 h3 hargs => by
  have hσ : ∀ a b, sigM τ k nx a = sigM τ k nx b → a = b := by
    intro a b e
    by_cases ea : a < k
    · by_cases eb : b < k
      · rw [sigM_lt ea, sigM_lt eb] at e; exact hi a b ea eb e
      · rw [sigM_lt ea, sigM_ge (by omega)] at e; have := hlt a ea; omega
    · by_cases eb : b < k
      · rw [sigM_lt eb, sigM_ge (by omega)] at e; have := hlt b eb; omega
      · rw [sigM_ge (by omega), sigM_ge (by omega)] at e; omega
  -- the callee's view
  let ρc : Env := fun b => if b < k then ρ (τ b) else none
  have cle : ∀ b x, b < k → ρ (τ b) = some x → ρc b = some x := fun b x e1 e2 => by show (if b < k then ρ (τ b) else none) = _; rw [if_pos e1]; exact e2
  have cge : ∀ b x, ρc b = some x → b < k ∧ ρ (τ b) = some x := fun b x e => by
    have e : (if b < k then ρ (τ b) else none) = some x := e
    split at e
    · rename_i e1; exact ⟨e1, e⟩
    · cases e
  have hlive0 : ∀ b, gt H0 b ≠ none → b < k ∧ gt H (τ b) ≠ none := fun b hb => by
    cases e : gt H0 b with
    | none => exact absurd e hb
    | some q => exact ⟨(hX b q e).2.1, by rw [(hX b q e).1]; simp⟩
  have hmem : Mem (live H0 ρc) w ρc Φ (gt H0) w := by
    refine ⟨fun b q hb => ?_, fun b b' x x' h4 h5 h6 h7 h8 => ?_, fun b x h4 h5 => h3.free _ x (hlive0 b h4).2 (cge b x h5).2, fun b x h4 h5 => .inl ⟨b, x, h4, h5, rfl⟩, h3.frz, Keeps.refl _ _⟩
    · obtain ⟨b0, b1, b2⟩ := hX b q hb
      obtain ⟨x, o, e4, e5, e6⟩ := h3.at_ _ _ b0
      exact ⟨x, o, cle b x b1 e4, e5, e6.unren cle b2⟩
    · exact hi b b' (hlive0 b h4).1 (hlive0 b' h5).1 (h3.inj _ _ x x' (hlive0 b h4).2 (hlive0 b' h5).2 (cge b x h6).2 (cge b' x' h7).2 h8)
  have hcall := hP ρc Φ w _ (fun b hb => by
    cases e : ρc b with
    | none => exact absurd e hb
    | some x => exact (cge b x e).1) hmem (ConL.unren cle a0 hba (ha ▸ hargs))
  refine hcall.mono ?_
  rintro e w' ⟨y, ρ1, Φ1, rfl, h4, h5, h6, h7, h8, h9, h10, h11⟩
  -- the caller's view, afterwards
  let ρ' : Env := fun m => match ρ m with
    | some z => some z
    | none => if nx ≤ m ∧ m < nx + (n1 - k) then ρ1 (k + (m - nx)) else none
  have le : ρ.le ρ' := fun m z e => by show (match ρ m with | some z => some z | none => _) = _; rw [e]
  have new : ∀ m, ρ m = none → ρ' m = if nx ≤ m ∧ m < nx + (n1 - k) then ρ1 (k + (m - nx)) else none := fun m e => by show (match ρ m with | some z => some z | none => _) = _; rw [e]
  have up : ∀ b z, ρ1 b = some z → ρ' (sigM τ k nx b) = some z := fun b z e => by
    by_cases eb : b < k
    · rw [sigM_lt eb]
      have e5 := h7 b eb
      rw [e] at e5
      exact le _ _ (cge b z e5.symm).2
    · have hb1 := h6 b (by rw [e]; simp)
      rw [sigM_ge (by omega)]
      have e5 := h1 (nx + (b - k)) (by omega) (by omega)
      rw [new _ e5, if_pos ⟨by omega, by omega⟩, show k + (nx + (b - k) - nx) = b by omega]; exact e
  have hmods : (renH (sigM τ k nx) H1 ++ deadH (sigM τ k nx) H0).map (·.1) = (H1.map (·.1)).map (sigM τ k nx) ++ (H0.map (·.1)).map (sigM τ k nx) := by rw [List.map_append, keys_renH, keys_deadH]
  have himg : ∀ r, live H0 ρc r → img ρ ((renH (sigM τ k nx) H1 ++ deadH (sigM τ k nx) H0).map (·.1)) r ∧ (C.Wr r ∨ C.w0.heap.size ≤ r) := by
    rintro r ⟨b, x, e4, e5, rfl⟩
    obtain ⟨e6, e7⟩ := cge b x e5
    refine ⟨⟨τ b, ?_, x, e7, rfl⟩, h3.own _ x (hlive0 b e4).2 e7⟩
    rw [hmods]; exact List.mem_append_right _ (List.mem_map.2 ⟨b, gt_key e4, sigM_lt e6⟩)
  have nl : ∀ r, Φ r → ¬ live H0 ρc r := fun r hr ⟨b, x, e4, e5, e6⟩ => h3.free _ x (hlive0 b e4).2 (cge b x e5).2 (e6 ▸ hr)
  have stab : ∀ r, Φ r → w'.heap[r]? = w.heap[r]? := fun r hr => h8.keep.block r (h3.frz r hr) (nl r hr)
  -- which blocks there are
  have hcase : ∀ m q, gt (renH (sigM τ k nx) H1 ++ deadH (sigM τ k nx) H0 ++ H) m = some q → (∃ b q1, sigM τ k nx b = m ∧ gt H1 b = some q1 ∧ q = q1.ren (sigM τ k nx)) ∨ (gt H m = some q ∧ ∀ b, gt H0 b ≠ none → τ b ≠ m) := by
    intro m q hq
    rw [List.append_assoc] at hq
    by_cases e : ∃ b ∈ H1.map (·.1), sigM τ k nx b = m
    · obtain ⟨b, hb, rfl⟩ := e
      rw [gt_renH hσ, if_pos hb] at hq
      cases e5 : gt H1 b with
      | none => rw [e5] at hq; cases hq
      | some q1 => rw [e5] at hq; cases hq; exact .inl ⟨b, q1, rfl, e5, rfl⟩
    · rw [gt_renH_out _ _ _ (fun b hb e5 => e ⟨b, hb, e5⟩)] at hq
      rcases gt_deadH (σ := sigM τ k nx) H H0 m with e4 | ⟨e4, e5⟩
      · rw [e4] at hq; cases hq
      · rw [e4] at hq
        exact .inr ⟨hq, fun b hb e6 => e5 b (gt_key hb) (by rw [sigM_lt (hlive0 b hb).1]; exact e6)⟩
  have hcase' : ∀ m, gt (renH (sigM τ k nx) H1 ++ deadH (sigM τ k nx) H0 ++ H) m ≠ none → (∃ b, sigM τ k nx b = m ∧ gt H1 b ≠ none) ∨ (gt H m ≠ none ∧ ∀ b, gt H0 b ≠ none → τ b ≠ m) := by
    intro m hm
    cases e : gt (renH (sigM τ k nx) H1 ++ deadH (sigM τ k nx) H0 ++ H) m with
    | none => exact absurd e hm
    | some q =>
      rcases hcase m q e with ⟨b, q1, e5, e6, _⟩ | ⟨e5, e6⟩
      · exact .inl ⟨b, e5, by rw [e6]; simp⟩
      · exact .inr ⟨by rw [e5]; simp, e6⟩
  have callee : ∀ b z, gt H1 b ≠ none → ρ' (sigM τ k nx b) = some z → ρ1 b = some z := fun b z e4 e5 => by
    cases e6 : gt H1 b with
    | none => exact absurd e6 e4
    | some q =>
      obtain ⟨x, o, e7, _⟩ := h8.at_ b q e6
      rw [up b x e7] at e5; cases e5; exact e7
  have old : ∀ m z, gt H m ≠ none → ρ' m = some z → ρ m = some z ∧ z.1 < w.heap.size := fun m z e4 e5 => by
    cases e6 : gt H m with
    | none => exact absurd e6 e4
    | some q =>
      obtain ⟨x, o, e7, e8, _⟩ := h3.at_ m q e6
      rw [le _ _ e7] at e5; cases e5; exact ⟨e7, (Array.getElem?_eq_some_iff.1 e8).1⟩
  have oldnl : ∀ m z, gt H m ≠ none → (∀ b, gt H0 b ≠ none → τ b ≠ m) → ρ m = some z → ¬ live H0 ρc z.1 := fun m z e4 e5 e6 ⟨b, x, e7, e8, e9⟩ =>
    e5 b e7 (h3.inj _ _ x z (hlive0 b e7).2 e4 (cge b x e8).2 e6 e9)
  refine ⟨y, ρ', Φ1, rfl, ⟨le, fun b hb => ?_, h9, fun r hr => (h10 r hr).imp id (Or.imp id (himg r)), h8.keep.mono fun r _ hr => (himg r hr).1, stab, fun b z e0 e1 e2 => ?_, ⟨fun m q hq => ?_, fun m m' z z' e4 e5 e6 e7 e8 => ?_, fun m z e4 e5 => ?_, fun m z e4 e5 => ?_, h8.frz, ?_⟩, h11⟩, Con.ren up res h4⟩
  · cases e : ρ b with
    | some z => exact .inl (by simp)
    | none =>
      rw [new b e] at hb
      split at hb
      · rename_i hh; exact .inr hh
      · exact absurd rfl hb
  · rcases hcase' b e0 with ⟨c, e4, e5⟩ | ⟨e4, _⟩
    · subst e4
      have e6 := callee c z e5 e2
      rcases h8.own c z e5 e6 with e7 | e7
      · exact .inr (himg _ e7).1
      · exact .inl e7
    · have := (old b z e4 e2).1; rw [e1] at this; cases this
  · rcases hcase m q hq with ⟨b, q1, rfl, e5, rfl⟩ | ⟨e4, e5⟩
    · obtain ⟨z, o, e6, e7, e8⟩ := h8.at_ b q1 e5
      exact ⟨z, o, up b z e6, e7, e8.ren up⟩
    · obtain ⟨z, o, e6, e7, e8⟩ := h3.at_ m q e4
      have hl := (Array.getElem?_eq_some_iff.1 e7).1
      exact ⟨z, o, le _ _ e6, (h8.keep.block _ hl (oldnl m z (by rw [e4]; simp) e5 e6)).trans e7, e8.mono le h9 stab⟩
  · rcases hcase' m e4 with ⟨b, rfl, f1⟩ | ⟨f1, f2⟩
    · have g1 := callee b z f1 e6
      rcases hcase' m' e5 with ⟨b', rfl, f1'⟩ | ⟨f1', f2'⟩
      · rw [h8.inj b b' z z' f1 f1' g1 (callee b' z' f1' e7) e8]
      · exfalso
        obtain ⟨g2, g3⟩ := old m' z' f1' e7
        rcases h8.own b z f1 g1 with g4 | g4
        · exact oldnl m' z' f1' f2' g2 (e8 ▸ g4)
        · omega
    · obtain ⟨g2, g3⟩ := old m z f1 e6
      rcases hcase' m' e5 with ⟨b', rfl, f1'⟩ | ⟨f1', f2'⟩
      · exfalso
        rcases h8.own b' z' f1' (callee b' z' f1' e7) with g4 | g4
        · exact oldnl m z f1 f2 g2 (e8.symm ▸ g4)
        · omega
      · exact h3.inj m m' z z' f1 f1' g2 (old m' z' f1' e7).1 e8
  · rcases hcase' m e4 with ⟨b, rfl, f1⟩ | ⟨f1, f2⟩
    · exact h8.free b z f1 (callee b z f1 e5)
    · obtain ⟨g2, g3⟩ := old m z f1 e5
      intro hf
      rcases h10 _ hf with g4 | g4 | g4
      · exact h3.free m z f1 g2 g4
      · omega
      · exact oldnl m z f1 f2 g2 g4
  · rcases hcase' m e4 with ⟨b, rfl, f1⟩ | ⟨f1, f2⟩
    · rcases h8.own b z f1 (callee b z f1 e5) with g4 | g4
      · exact (himg _ g4).2
      · exact .inr (Nat.le_trans h3.keep.size g4)
    · exact h3.own m z f1 (old m z f1 e5).1
  · refine ⟨h8.keep.os.trans h3.keep.os, h8.keep.tape.trans h3.keep.tape, h8.keep.output.trans h3.keep.output, Nat.le_trans h3.keep.size h8.keep.size, fun r hr hn => (h8.keep.block r (Nat.lt_of_lt_of_le hr h3.keep.size) fun hl => ?_).trans (h3.keep.block r hr hn)⟩
    rcases (himg r hl).2 with g4 | g4
    · exact hn g4
    · omega
theorem U_callM {x : Operand} {args : Array Operand} {ts : Array TypeId} {f : FuncId} {fi ca vs a0 : List AV} {H0 H1 : AH} {k n1 : Nat} {res : AV} [hf : FnOk C.P f] (τ : Nat → Nat) (hx : ev T x = some (.fn f fi ca)) (hv : evL T args.toList = some vs) (hP : MutP C.P f a0 H0 k res H1 n1)
    (ha : fi ++ vs ++ ca = renL τ a0) (hba : belbL k a0 = true) (hH : renSubH τ H0 H) (hbH : belbH k H0 = true) (_hall : ∀ b, b < k → gt H0 b ≠ none) (hi : ∀ b b', b < k → b' < k → τ b = τ b' → b = b') (hlt : ∀ b, b < k → τ b < nx) :
    OpU C ⟨d, .call ⟨.value x, args, ts⟩, ty, pos, after, g⟩ T H nx (res.ren (sigM τ k nx)) (renH (sigM τ k nx) H1 ++ deadH (sigM τ k nx) H0) (nx + (n1 - k)) := fun ρ Φ a w h1 h2 h3 K Q kk => by
  have hc := ev_con h2 hx
  simp only [Con] at hc
  obtain ⟨xs, ys, e1, e2, e3⟩ := hc
  have hargs : ConL ρ Φ w (fi ++ vs ++ ca) (xs ++ args.toList.map a.eval ++ ys) := conL_append (conL_append e1 (evL_con h2 hv)) e2
  have hrun : (execOp a.eval ⟨d, .call ⟨.value x, args, ts⟩, ty, pos, after, g⟩).run C.P w = .ok (.enter f (xs ++ args.toList.map a.eval ++ ys).toArray) w := by
    simp only [execOp, resolve, e3, Deferred.ofValue, Sem.run_bind, Sem.run_pure, Result.andThen_ok, invoke]
    rw [hf.run]
    simp [← Array.toList_map]
  refine ⟨fun _ _ => trivial, ?_⟩
  rw [Oper.semAt_eq _ _ _ (by intro c; simp), hrun]
  refine ⟨fun _ => by simp_all [Ctx.F, Fence.wide], (callsIn_of 0 (callM τ hP ha hba (fun b q e => ⟨renSubH_gt hH b q e, belbH_gt hbH b q e⟩) hi hlt ρ Φ w h1 h3 hargs)).mono ?_⟩
  rintro e w' ⟨y, ρ', Φ', rfl, h4, h5⟩
  exact kk ρ' Φ' y w' h4 h5
end
end Go.AE
end

section
/- Abstract states, fourteenth part: ranges over functions. -/
namespace Go.AE
open Go.RowKit

def _root_.Go.Code.ps : Code → Array Tmp
  | .rangeFunc _ p _ _ => p
  | _ => #[]
theorem tag_range {c : Code} (h : c.tag = 7) : c = .rangeFunc c.c c.ps c.l c.r := by
  cases c
  case rangeFunc => rfl
  case region i o d => cases d <;> cases h
  all_goals cases h

/-- A part's view of memory, as the whole's. -/
theorem Mem.rebase {Wr : Nat → Prop} {w0 w w2 : World} {ρ ρ2 : Env} {Φ Φ2 : Fz} {H : AH} {G2 : Nat → Option ABlk} (h : Mem Wr w0 ρ Φ (gt H) w) (k : Mem (live H ρ) w ρ2 Φ2 G2 w2) : Mem Wr w0 ρ2 Φ2 G2 w2 := by
  have hl : ∀ r, live H ρ r → Wr r ∨ w0.heap.size ≤ r := by
    rintro r ⟨b, x, e4, e5, rfl⟩; exact h.own b x e4 e5
  refine ⟨k.at_, k.inj, k.free, fun b x h1 h2 => ?_, k.frz, k.keep.os.trans h.keep.os, k.keep.tape.trans h.keep.tape, k.keep.output.trans h.keep.output, Nat.le_trans h.keep.size k.keep.size, fun r hr hn => (k.keep.block r (Nat.lt_of_lt_of_le hr h.keep.size) fun hh => ?_).trans (h.keep.block r hr hn)⟩
  · rcases k.own b x h1 h2 with g4 | g4
    · exact hl _ g4
    · exact .inr (Nat.le_trans h.keep.size g4)
  · rcases hl r hh with g4 | g4
    · exact hn g4
    · omega
theorem Mem.start {Wr : Nat → Prop} {w0 w : World} {ρ : Env} {Φ : Fz} {H : AH} (h : Mem Wr w0 ρ Φ (gt H) w) : Mem (live H ρ) w ρ Φ (gt H) w :=
  ⟨h.at_, h.inj, h.free, fun b x h1 h2 => .inl ⟨b, x, h1, h2, rfl⟩, h.frz, Keeps.refl _ _⟩
/-- The context of a round. -/
abbrev Ctx.rnd (C : Ctx) (H : AH) (ρ : Env) (Φ : Fz) (w : World) (nx l nt : Nat) : Ctx := ⟨C.P, w, live H ρ, Φ, some l, nt, nx, ρ⟩
section
variable {C : Ctx} {T : AT} {H : AH} {nx : Nat} {df : List Nat} {ρ : Env} {Φ : Fz} {a : Act} {w : World}
theorem Conc.back {l nt : Nat} {T2 : AT} {H2 : AH} {nx2 : Nat} {df2 : List Nat} {ρ2 : Env} {Φ2 : Fz} {a2 : Act} {w2 : World} (h : Conc C ⟨T, H, nx, df⟩ ρ Φ a w) (k : Conc (C.rnd H ρ Φ w nx l nt) ⟨T2, H2, nx2, df2⟩ ρ2 Φ2 a2 w2) : Conc C ⟨T, H2, nx2, df⟩ ρ2 Φ2 a w2 := by
  have le : ρ.le ρ2 := fun b x e => (k.base b (h.dom b (by rw [e]; simp))).trans e
  have nl : ∀ r, Φ r → ¬ live H ρ r := fun r hr ⟨b, x, e4, e5, e6⟩ => h.mem.free b x e4 e5 (e6 ▸ hr)
  have stab : ∀ r, Φ r → w2.heap[r]? = w.heap[r]? := fun r hr => k.mem.keep.block r (h.mem.frz r hr) (nl r hr)
  refine ⟨k.dom, h.tm.mono le k.fz.2 stab, h.mem.rebase k.mem, h.df.mono k.dk, ⟨fun r hr => ?_, Fz.le_trans h.fz.2 k.fz.2⟩, fun b h1 => (k.base b (Nat.lt_of_lt_of_le h1 h.kn)).trans (h.base b h1), Nat.le_trans h.kn k.kn, h.dk.trans k.dk⟩
  rcases k.fz.1 r hr with g | g | g
  · exact h.fz.1 r g
  · exact .inr (.inl (Nat.le_trans h.mem.keep.size g))
  · obtain ⟨b, x, e1, e2, rfl⟩ := g; exact .inr (h.mem.own b x e1 e2).symm
/-- Another block, in the same place. -/
theorem Conc.setB {b : Nat} {k k' : ABlk} {o : Obj} {w' : World} (h : Conc C ⟨T, H, nx, df⟩ ρ Φ a w) (hg : gt H b = some k) {x : Nat × Nat × Nat} (hx : ρ b = some x) (hw : OneNew w w' x.1 o) (hk : BlkAt ρ Φ w x k' o) : Conc C ⟨T, (b, some k') :: H, nx, df⟩ ρ Φ a w' := by
  have hp := Post.set h.mem nx hg hx hw hk
  rw [← gt_upG] at hp
  exact Conc.step (s := ⟨T, H, nx, df⟩) (ups := [(b, some k')]) (v := .tup []) (x := undef) (d := none) h hp (by simp [Con, undef, ConL]) rfl (Nat.le_refl _)
theorem oneNew_put {w : World} {r : Nat} {o o' : Obj} (h : w.heap[r]? = some o') : OneNew w (w.putObj r o) r o :=
  ⟨rfl, rfl, rfl, by simp, World.putObj_heap_same (Array.getElem?_eq_some_iff.1 h).1, fun i hi => World.putObj_heap_other hi⟩

def zipT : List Tmp → List AV → AT → AT
  | p :: ps, v :: vs, T => zipT ps vs ((p, v) :: T)
  | _, _, T => T
theorem zipT_at {nt : Nat} : ∀ {ps : List Tmp} {vs : List AV} {xs : List Value} {T : AT} {tmps : Array Value}, (∀ p ∈ ps, p < nt) → ConL ρ Φ w vs xs → TmpsAt ρ Φ w T nt tmps →
    TmpsAt ρ Φ w (zipT ps vs T) nt ((ps.zip xs).foldl (fun t (p : Tmp × Value) => t.setIfInBounds p.1 p.2) tmps)
  | [], _, _, _, _, _, _, h => by simpa [zipT] using h
  | _ :: _, [], _, _, _, _, hc, h => by simp only [ConL] at hc; subst hc; simpa [zipT] using h
  | p :: ps, v :: vs, _, T, tmps, hp, hc, h => by
    obtain ⟨y, ys, rfl, h1, h2⟩ := conL_inv hc
    simp only [zipT, List.zip_cons_cons, List.foldl_cons]
    refine zipT_at (fun q hq => hp q (by simp [hq])) h2 ?_
    have := TmpsAt.put (a := { tmps := tmps, defers := [] }) h (d := some p) h1 (by simpa using hp p (by simp))
    simpa [putT, Act.put] using this
/-- One round of a loop. -/
def Round (C : Ctx) (l : Nat) (p : Option Code) (Tr : AT) (ntr : Nat) (ps : Array Tmp) (assign body : Code) (d : Nat) (N : Bool → Option Code → AH → Nat → Prop) (T0 : AT) (H : AH) (nx : Nat) : Prop :=
  ∀ ρ Φ w lc, WpA (C.rnd H ρ Φ w nx lc ntr) assign
    (thenQ (fun s1 => gt s1.H l = some (.loop .ready p Tr ntr ps assign body d) ∧
        WpA (C.rnd H ρ Φ w nx lc ntr) body (fun e s2 => gt s2.H l = some (.loop .busy p Tr ntr ps assign body d) ∧
          match e with
          | .normal => N true none s2.H s2.nx
          | .ret => N false (some .ret) s2.H s2.nx
          | .exit i => N false (some (.exit i)) s2.H s2.nx
          | .goto i => N false (some (.goto i)) s2.H s2.nx
          | _ => False) ⟨s1.T, (l, some (.loop .busy p Tr ntr ps assign body d)) :: s1.H, s1.nx, s1.df⟩)
      (fun _ _ => False)) ⟨T0, H, nx, []⟩

/-- A call of yield: one round. -/
theorem Ryield {ops : Array Oper} {i : Nat} {K : St → Prop} {o : Oper} {x : Operand} {args : Array Operand} {ts : Array TypeId} {vs : List AV} {l t ntr d : Nat} {p : Option Code} {Tr : AT} {ps : Array Tmp} {assign body : Code} {c : Bool}
    (ho : nth ops.toList i = some o) (hg : wantedA ops.toList T o = some c) (hc : c = true) (hop : o.op = .call ⟨.value x, args, ts⟩) (hx : ev T x = some (.yld l)) (hv : evL T args.toList = some vs) (hl : gt H l = some (.loop .ready p Tr ntr ps assign body d))
    (hsz : vs.length = ps.toList.length) (hps : ps.toList.all (·.blt ntr) = true) (hd : o.dst = some t) (ht : t.blt C.nt = true)
    (hr : Round C l p Tr ntr ps assign body d (fun b j H2 nx2 => Reg C ops (i + 1) K ⟨(t, .bool b) :: T, (l, some (.loop (if b then .ready else .done) j Tr ntr ps assign body d)) :: H2, nx2, df⟩) (zipT ps.toList vs Tr) H nx) :
    Reg C ops i K ⟨T, H, nx, df⟩ := fun ρ Φ a w hcc Q hQ => by
  obtain ⟨h1, h2⟩ := range_at ho
  rw [h2]
  simp only [wpOpsIn, h1]
  rw [wantedA_eq hcc.tm hg, hc, if_pos rfl]
  have e1 := ev_con hcc.tm hx
  simp only [Con] at e1
  obtain ⟨y, e2, e3⟩ := e1
  obtain ⟨y', ob, e4, e5, fn, tmps, z, e6, e7, rfl⟩ := hcc.mem.at_ l _ hl
  rw [e2] at e4; cases e4
  have hvs := evL_con hcc.tm hv
  have hlen := conL_len hvs
  have hrun : (execOp a.eval o).run C.P w = .ok (.round y.1 fn ((ps.zip (args.map a.eval)).foldl (fun tmps (t, a) => tmps.setIfInBounds t a) tmps) assign body) w := by
    have := run_yield (P := C.P) (args := args.map a.eval) e5 (by simp at hlen hsz ⊢; omega)
    unfold execOp; rw [hop]
    simp only [resolve, e3, Deferred.ofValue, Sem.run_bind, Sem.run_pure, Result.andThen_ok, invoke]
    simpa using this
  refine ⟨fun _ _ => trivial, ?_⟩
  rw [Oper.semAt_eq _ _ _ (by intro c; rw [hop]; simp), hrun, Oper.uponIn_round]
  refine ⟨fun h => by simp [Ctx.F, Fence.wide] at h, ?_⟩
  -- the round
  have hr0 := hr ρ Φ w y.1
  have hconc : Conc (C.rnd H ρ Φ w nx y.1 ntr) ⟨zipT ps.toList vs Tr, H, nx, []⟩ ρ Φ { tmps := (ps.zip (args.map a.eval)).foldl (fun tmps (t, a) => tmps.setIfInBounds t a) tmps, defers := [] } w := by
    refine ⟨hcc.dom, ?_, hcc.mem.start, Coll.nil _ _ _, ⟨fun _ h => .inl h, Fz.le_refl _⟩, fun _ _ => rfl, Nat.le_refl _, Dk.refl _ _⟩
    have := zipT_at (fun q hq => ltOf (List.all_eq_true.1 hps q hq)) hvs e7
    have e8 : (ps.zip (args.map a.eval)).foldl (fun tmps (t, a) => tmps.setIfInBounds t a) tmps = (ps.toList.zip (args.toList.map a.eval)).foldl (fun t (p : Tmp × Value) => t.setIfInBounds p.1 p.2) tmps := by
      rw [← Array.foldl_toList, Array.toList_zip, Array.toList_map]
    rw [e8]; exact this
  refine roundIn_of_wpIn (l := y.1) trivial ?_
  have hw := hr0 ρ Φ _ w hconc
  refine wpIn_mono hw ?_
  rintro e a1 w1 ⟨s1, ρ1, Φ1, hq, hc1⟩
  cases e with
  | normal =>
    obtain ⟨hl1, hb⟩ := hq
    obtain ⟨y1, ob1, f1, f2, fn1, tmps1, z1, f3, f4, rfl⟩ := hc1.mem.at_ l _ hl1
    have fy : y1 = y := by
      have := (hc1.base l (hcc.dom l (by rw [e2]; simp))).trans e2
      rw [f1] at this; cases this; rfl
    subst fy
    have hbeg := run_beginRound (P := C.P) f2 rfl
    refine ⟨_, hbeg, ?_⟩
    have hc2 : Conc (C.rnd H ρ Φ w nx y1.1 ntr) ⟨s1.T, (l, some (.loop .busy p Tr ntr ps assign body d)) :: s1.H, s1.nx, s1.df⟩ ρ1 Φ1 a1 _ := Conc.setB (T := s1.T) hc1 hl1 f1 (oneNew_put f2) ⟨fn1, tmps1, z1, f3, f4, rfl⟩
    refine wpIn_mono (hb ρ1 Φ1 a1 _ hc2) ?_
    rintro e2' a2 w2 ⟨s2, ρ2, Φ2, ⟨hl2, hN⟩, hc3⟩
    obtain ⟨y2, ob2, g1, g2, fn2, tmps2, z2, g3, g4, rfl⟩ := hc3.mem.at_ l _ hl2
    have gy : y2 = y1 := by
      have := (hc3.base l (hcc.dom l (by rw [e2]; simp))).trans e2
      rw [g1] at this; cases this; rfl
    subst gy
    have fin : ∀ (j : Option Code), Reg C ops (i + 1) K ⟨(t, .bool j.isNone) :: T, (l, some (.loop (if j.isNone then .ready else .done) j Tr ntr ps assign body d)) :: s2.H, s2.nx, df⟩ →
        ∃ v w', (Instr.endRound y2.1 j).run C.P w2 = .ok v w' ∧ wpOpsIn C.F 0 C.P ops Q (List.range' (i + 1) (ops.size - (i + 1))) (a.put o.dst v) w' := fun j hreg => by
      refine ⟨_, _, run_endRound (P := C.P) j g2, ?_⟩
      have hc4 : Conc (C.rnd H ρ Φ w nx y2.1 ntr) ⟨s2.T, (l, some (.loop (if j.isNone then .ready else .done) j Tr ntr ps assign body d)) :: s2.H, s2.nx, s2.df⟩ ρ2 Φ2 a2 _ := Conc.setB (T := s2.T) hc3 hl2 g1 (oneNew_put g2) ⟨fn2, tmps2, z2, g3, g4, rfl⟩
      have hc5 := hcc.back hc4
      refine hreg ρ2 Φ2 _ _ ?_ Q hQ
      rw [hd]
      refine ⟨hc5.dom, hc5.tm.put (d := some t) mk_bool (by simpa using ltOf ht), hc5.mem, by rw [put_defers]; exact hc5.df, hc5.fz, hc5.base, hc5.kn, hc5.dk⟩
    cases e2' with
    | normal => exact fin none hN
    | ret => exact fin (some .ret) hN
    | exit i => exact fin (some (.exit i)) hN
    | goto i => exact fin (some (.goto i)) hN
    | panic ch => exact hN.elim
    | outgrown => exact hN.elim
  | ret => exact hq.elim
  | exit i => exact hq.elim
  | goto i => exact hq.elim
  | panic ch => exact hq.elim
  | outgrown => exact hq.elim
end
end Go.AE
end

section
/- Abstract states, fifteenth part: the statement that ranges over a function, and how functions with such statements end. -/
namespace Go.AE
open Go.RowKit

section
variable {C : Ctx} {T : AT} {H : AH} {nx : Nat} {df : List Nat} {c : Code} {Q : Exit → St → Prop}
/-- A new block that is no cells. -/
theorem Conc.newB {ρ : Env} {Φ : Fz} {a : Act} {w : World} {k : ABlk} {o : Obj} (h : Conc C ⟨T, H, nx, df⟩ ρ Φ a w) (base room : Nat) (hk : BlkAt ρ Φ w (w.heap.size, base, room) k o) :
    Conc C ⟨T, (nx, some k) :: H, nx + 1, df⟩ (ρ.upd nx (w.heap.size, base, room)) Φ a (w.alloc o) := by
  have hρ : ρ nx = none := by
    cases e : ρ nx with
    | none => rfl
    | some x => have : nx < nx := h.dom nx (by rw [e]; simp); omega
  have hp := Post.new h.mem hρ base room hk
  rw [← gt_upG] at hp
  exact Conc.step (s := ⟨T, H, nx, df⟩) (ups := [(nx, some k)]) (v := .tup []) (x := undef) (d := none) h (hp.more (by simp)) (by simp [Con, undef, ConL]) rfl (Nat.le_succ _)

/-- The list of a range over a function. -/
theorem Conc.newD {ρ : Env} {Φ : Fz} {a : Act} {w : World} (h : Conc C ⟨T, H, nx, df⟩ ρ Φ a w) : Conc C ⟨T, H, nx + 1, df⟩ (ρ.upd nx (w.heap.size, 0, 0)) Φ { a with defers := { target := .collected w.heap.size, args := #[] } :: a.defers } (w.alloc dObj) := by
  have hρ : ρ nx = none := by
    cases e : ρ nx with
    | none => rfl
    | some x => have : nx < nx := h.dom nx (by rw [e]; simp); omega
  have hle := Env.le_upd (w.heap.size, 0, 0) hρ
  have hb : Below w.heap.size w (w.alloc dObj) := (Below.refl _ _).alloc (Nat.le_refl _) dObj
  have hst : ∀ r, Φ r → (w.alloc dObj).heap[r]? = w.heap[r]? := fun r hr => hb.block r (h.mem.frz r hr)
  have lv : ∀ b x, gt H b ≠ none → (ρ.upd nx (w.heap.size, 0, 0)) b = some x → ρ b = some x := fun b x h1 h2 => by
    by_cases e : b = nx
    · subst e
      cases e1 : gt H b with
      | none => exact absurd e1 h1
      | some k => obtain ⟨y, o, e2, _⟩ := h.mem.at_ b k e1; rw [hρ] at e2; cases e2
    · rw [Env.upd_ne _ _ e] at h2; exact h2
  refine ⟨fun b hb' => ?_, h.tm.mono hle Φ.le_refl hst, ⟨fun b k hk => ?_, fun b b' x x' h1 h2 h3 h4 => h.mem.inj b b' x x' h1 h2 (lv b x h1 h3) (lv b' x' h2 h4), fun b x h1 h2 => h.mem.free b x h1 (lv b x h1 h2), fun b x h1 h2 => h.mem.own b x h1 (lv b x h1 h2), fun r hr => ?_, h.mem.keep.trans (Keeps.of_below hb _)⟩, h.df.cons h.mem.keep.size h.mem.frz, h.fz, fun b h1 => ?_, Nat.le_succ_of_le h.kn, h.dk.trans (.below hb fun _ h => .inl h)⟩
  · by_cases e : b = nx
    · subst e; exact Nat.lt_succ_self _
    · rw [Env.upd_ne _ _ e] at hb'; exact Nat.lt_succ_of_lt (h.dom b hb')
  · obtain ⟨x, o, h1, h2, h3⟩ := h.mem.at_ b k hk
    exact ⟨x, o, hle _ _ h1, (hb.block _ (Array.getElem?_eq_some_iff.1 h2).1).trans h2, h3.mono hle Φ.le_refl hst⟩
  · have := h.mem.frz r hr; simp; omega
  · rw [Env.upd_ne _ _ (by have := h.kn; simp only at this; omega)]; exact h.base b h1

/-- What is done behind the loop. -/
def jumpQ (C : Ctx) (Q : Exit → St → Prop) (s : St) : Option Code → Prop
  | none => Q .normal s
  | some j => WpA C j Q s
/-- A statement that ranges over a function, outside of all others. -/
theorem W_range (h : c.tag = 7) (hro : C.round = none) {f : FuncId} {fi ca a0 : List AV} {H0 H1 : AH} {k n1 : Nat} {res : AV} [hf : FnOk C.P f] (hg : ev T c.c = some (.fn f fi ca)) (τ : Nat → Nat) (hP : MutP C.P f a0 H0 k res H1 n1)
    (ha : fi ++ [.yld (nx + 1)] ++ ca = renL τ a0) (hba : belbL k a0 = true) (hX : ∀ b q, gt H0 b = some q → gt ((nx + 1, some (.loop .ready none T C.nt c.ps c.l c.r nx)) :: H) (τ b) = some (q.ren τ) ∧ b < k ∧ q.belb k = true)
    (hi : ∀ b b', b < k → b' < k → τ b = τ b' → b = b') (hlt : ∀ b, b < k → τ b < nx + 1 + 1)
    {st : LoopState} {p : Option Code} {Tl : AT} {ntl dl : Nat} {psl : Array Tmp} {al bl : Code}
    (hend : gt (renH (sigM τ k (nx + 1 + 1)) H1 ++ deadH (sigM τ k (nx + 1 + 1)) H0 ++ ((nx + 1, some (.loop .ready none T C.nt c.ps c.l c.r nx)) :: H)) (nx + 1) = some (.loop st p Tl ntl psl al bl dl)) (hst : st ≠ .busy)
    (kk : jumpQ C Q ⟨T, (nx + 1, some (.loop .exhausted p Tl ntl psl al bl dl)) :: (renH (sigM τ k (nx + 1 + 1)) H1 ++ deadH (sigM τ k (nx + 1 + 1)) H0 ++ ((nx + 1, some (.loop .ready none T C.nt c.ps c.l c.r nx)) :: H)), nx + 1 + 1 + (n1 - k), df⟩ p) :
    WpA C c Q ⟨T, H, nx, df⟩ := by
  suffices hs : WpA C (.rangeFunc c.c c.ps c.l c.r) Q ⟨T, H, nx, df⟩ by rw [tag_range h]; exact hs
  intro ρ Φ a w hc
  have e0 := ev_con hc.tm hg
  simp only [Con] at e0
  obtain ⟨xs, ys, e1, e2, e3⟩ := e0
  refine wpIn_rangeFunc fun fn _ => ?_
  -- the two blocks
  have h1 : Conc C ⟨T, H, nx + 1, df⟩ _ Φ { a with defers := { target := .collected w.heap.size, args := #[] } :: a.defers } (w.alloc dObj) := hc.newD
  have hnx : (ρ.upd nx (w.heap.size, 0, 0)) nx = some (w.heap.size, 0, 0) := Env.upd_same _ _ _
  have h2 : Conc C ⟨T, (nx + 1, some (.loop .ready none T C.nt c.ps c.l c.r nx)) :: H, nx + 1 + 1, df⟩ _ Φ { a with defers := { target := .collected w.heap.size, args := #[] } :: a.defers } _ :=
    Conc.newB (k := .loop .ready none T C.nt c.ps c.l c.r nx) (o := .loop { state := .ready, pending := none, fn, tmps := a.tmps, params := c.ps, assign := c.l, body := c.r, defers := w.heap.size }) h1 0 0
      ⟨fn, a.tmps, _, hnx, h1.tm, rfl⟩
  have hsz : (w.alloc (.deferred (some []))).heap.size = w.heap.size + 1 := World.size_alloc w _
  rw [hsz] at h2
  have hnx1 : ((ρ.upd nx (w.heap.size, 0, 0)).upd (nx + 1) (w.heap.size + 1, 0, 0)) nx = some (w.heap.size, 0, 0) := by rw [Env.upd_ne _ _ (by omega)]; exact hnx
  have hnx2 : ((ρ.upd nx (w.heap.size, 0, 0)).upd (nx + 1) (w.heap.size + 1, 0, 0)) (nx + 1) = some (w.heap.size + 1, 0, 0) := Env.upd_same _ _ _
  have h3 : Conc C ⟨T, (nx + 1, some (.loop .ready none T C.nt c.ps c.l c.r nx)) :: H, nx + 1 + 1, df⟩ _ Φ { a with defers := [{ target := .collected w.heap.size, args := #[] }] ++ a.defers } _ := h2
  have hargs : ConL ((ρ.upd nx (w.heap.size, 0, 0)).upd (nx + 1) (w.heap.size + 1, 0, 0)) Φ ((w.alloc (.deferred (some []))).alloc (.loop { state := .ready, pending := none, fn, tmps := a.tmps, params := c.ps, assign := c.l, body := c.r, defers := w.heap.size })) (fi ++ [.yld (nx + 1)] ++ ca) (xs ++ [.func (.yield (w.heap.size + 1)) #[] #[]] ++ ys) := by
    have e4 := ev_con h3.tm hg
    simp only [Con] at e4
    obtain ⟨xs', ys', f1, f2, f3⟩ := e4
    have f3' : a.eval c.c = .func (.func f) xs'.toArray ys'.toArray := f3
    rw [e3] at f3'
    have g1 : xs = xs' := by have := Value.func.inj f3'; simpa using this.2.1
    have g2 : ys = ys' := by have := Value.func.inj f3'; simpa using this.2.2
    subst g1; subst g2
    exact conL_append (conL_append f1 (conL_cons (by simp only [Con]; exact ⟨_, hnx2, rfl⟩) conL_nil)) f2
  have hcall := callM τ hP ha hba hX hi hlt _ Φ _ (fun b g1 g2 => h3.fresh (n := nx + 1 + 1 + (n1 - k)) b g1 g2) h3.mem hargs
  generalize hW : (w.alloc (.deferred (some []))).alloc (.loop { state := .ready, pending := none, fn, tmps := a.tmps, params := c.ps, assign := c.l, body := c.r, defers := w.heap.size }) = W2 at hcall h3
  refine ⟨w.heap.size + 1, [{ target := .collected w.heap.size, args := #[] }], W2, { target := .fn (.func f) ys.toArray, args := xs.toArray ++ #[Value.func (.yield (w.heap.size + 1)) #[] #[]] }, W2, f, (xs ++ [Value.func (.yield (w.heap.size + 1)) #[] #[]] ++ ys).toArray, W2, ?_, ?_, fun _ _ => trivial, ?_, fun hh => by simp [Ctx.F, Fence.wide] at hh, ?_⟩
  · rw [show C.F.round = none from hro, ← hW]; exact run_enterLoop_outer fn a.tmps c.ps c.l c.r
  · simp only [resolve, e3, Deferred.ofValue, Sem.run_pure]
    simp [Act.eval]
  · simp only [invoke]
    rw [hf.run]
    simp
  · refine (callsIn_of 0 hcall).mono ?_
    rintro e w' ⟨y, ρ', Φ', rfl, hp, _⟩
    have h4 := Conc.step (s := ⟨T, (nx + 1, some (.loop .ready none T C.nt c.ps c.l c.r nx)) :: H, nx + 1 + 1, df⟩) (v := .tup []) (x := undef) (d := none) h3 hp (by simp [Con, undef, ConL]) rfl (Nat.le_add_right _ _)
    obtain ⟨z, ob, g1, g2, fn', tmps', zz, g3, g4, rfl⟩ := h4.mem.at_ (nx + 1) _ hend
    have gz : z = (w.heap.size + 1, 0, 0) := by
      have := hp.le _ _ hnx2
      rw [g1] at this; cases this; rfl
    subst gz
    have h5 : Conc C ⟨T, (nx + 1, some (.loop .exhausted p Tl ntl psl al bl dl)) :: (renH (sigM τ k (nx + 1 + 1)) H1 ++ deadH (sigM τ k (nx + 1 + 1)) H0 ++ ((nx + 1, some (.loop .ready none T C.nt c.ps c.l c.r nx)) :: H)), nx + 1 + 1 + (n1 - k), df⟩ _ _ _ _ :=
      Conc.setB (T := T) h4 hend g1 (oneNew_put g2) ⟨fn', tmps', zz, g3, g4, rfl⟩
    refine ⟨p, _, run_endLoop (P := C.P) g2 hst, ?_⟩
    cases p with
    | none => exact ⟨_, _, _, kk, h5⟩
    | some j => exact kk _ _ _ _ h5

end
end Go.AE
end

section
/- Abstract states, sixteenth part: maps, copy, clear. -/
namespace Go.AE
open Go.RowKit

/-! ### Keys -/
/-- The place of a key, and what stands there. -/
inductive FindK (key : AV) : List (AV × AV × Nat) → Option (Nat × AV) → Prop where
  | nil : FindK key [] none
  | hit (v : AV) (n : Nat) (es : List (AV × AV × Nat)) : FindK key ((key, v, n) :: es) (some (0, v))
  | miss0 {k v : AV} {n : Nat} {es : List (AV × AV × Nat)} (h : k ≠ key) (r : FindK key es none) : FindK key ((k, v, n) :: es) none
  | miss {k v : AV} {n i : Nat} {u : AV} {es : List (AV × AV × Nat)} (h : k ≠ key) (r : FindK key es (some (i, u))) : FindK key ((k, v, n) :: es) (some (i + 1, u))
def FoundAs (ρ : Env) (Φ : Fz) (w : World) : Option (Nat × AV) → Option (Nat × Value) → Prop
  | none, none => True
  | some (i, v), some (j, y) => i = j ∧ Con ρ Φ w v y
  | _, _ => False
def keysOk (ok : AV → Bool) : List (AV × AV × Nat) → Bool
  | [] => true
  | (k, _, _) :: es => ok k && keysOk ok es
/-- A type of keys. -/
class TyKey (P : Program) (kt : TypeId) (ok : outParam (AV → Bool)) : Prop where
  check : ∀ (e : Bool) (v : AV) (x : Value) ρ Φ w, ok v = true → Con ρ Φ w v x → (Instr.checkKey e 10000 kt x).run P w = .ok () w
  find : ∀ ρ Φ w (key : AV) (x : Value) (es : List (AV × AV × Nat)) (l : List MapEntry) r, ok key = true → keysOk ok es = true → Con ρ Φ w key x → ConE ρ Φ w es l → FindK key es r → ∃ r', (Instr.findKey kt x l).run P w = .ok r' w ∧ FoundAs ρ Φ w r r'
  same : ∀ (v : AV) (x y : Value) ρ Φ w, ok v = true → Con ρ Φ w v x → Con ρ Φ w v y → (Instr.keyThatStays x y).run P w = .ok y w
class TyMap (P : Program) (t : TypeId) (kt et : outParam TypeId) : Prop where
  un : P.underlying t = some (.map kt et)

def okInt (k : IntKind) : AV → Bool
  | .int k' _ => decide (k' = k)
  | _ => false
def okFlat (ks : List IntKind) : AV → Bool
  | .agg cs => match numsOf cs with
    | some _ => decide (kindsA cs = ks)
    | none => false
  | _ => false
theorem sameBits_int {n : Nat} {k : IntKind} {a : Int} : Instr.sameBits n (.int k a) (.int k a) = true := by simp [Instr.sameBits]
theorem TyKey.of_int {P : Program} {kt : TypeId} {k : IntKind} (hu : P.underlying kt = some (.int k)) : TyKey P kt (okInt k) where
  check e v x ρ Φ w h c := by
    cases v with
    | int k' n => have hx : x = .int k' n := by simpa only [Con] using c
                  subst hx
                  have : ∀ m, (Instr.checkKey e (m + 1) kt (.int k' n)).run P w = .ok () w := fun m => by simp [Instr.checkKey, run_underlying hu]
                  exact this 9999
    | _ => cases h
  find := by
    intro ρ Φ w key x es l r hk hks c ce hf
    have main : ∀ (es : List (AV × AV × Nat)) (l : List MapEntry) (r : Option (Nat × AV)) (i : Nat), keysOk (okInt k) es = true → ConE ρ Φ w es l → FindK key es r → ∃ r', Instr.findNow (.int k) x l i = some (r'.map fun p => (p.1 + i, p.2)) ∧ FoundAs ρ Φ w r r' := by
      intro es
      induction es with
      | nil =>
        intro l r i _ ce hf
        simp only [ConE] at ce; subst ce
        cases hf
        exact ⟨none, by simp [Instr.findNow], trivial⟩
      | cons q es ih =>
        obtain ⟨k1, v1, n1⟩ := q
        intro l r i hks ce hf
        have hks' : okInt k k1 = true ∧ keysOk (okInt k) es = true := by simpa only [keysOk, Bool.and_eq_true] using hks
        simp only [ConE] at ce
        obtain ⟨xk, xv, l', rfl, c1, c2, c3⟩ := ce
        cases key with
        | int kk n =>
          have hx : x = .int kk n := by simpa only [Con] using c
          subst hx
          have hkk : kk = k := by simpa [okInt] using hk
          subst hkk
          cases k1 with
          | int k1' m =>
            have hxk : xk = .int k1' m := by simpa only [Con] using c1
            subst hxk
            have hkk : k1' = kk := by simpa [okInt] using hks'.1
            subst hkk
            cases hf with
            | hit => exact ⟨some (0, xv), by simp [Instr.findNow, Instr.sameNow], rfl, c2⟩
            | miss0 hne hr =>
              have hne' : (n == m) = false := by simpa using fun e : n = m => hne (by rw [e])
              obtain ⟨r', e1, e2⟩ := ih l' none (i + 1) hks'.2 c3 hr
              refine ⟨none, ?_, trivial⟩
              have : r' = none := by
                cases r' with
                | none => rfl
                | some p => exact e2.elim
              subst this
              simpa [Instr.findNow, Instr.sameNow, hne'] using e1
            | miss hne hr =>
              have hne' : (n == m) = false := by simpa using fun e : n = m => hne (by rw [e])
              obtain ⟨r', e1, e2⟩ := ih l' _ (i + 1) hks'.2 c3 hr
              cases r' with
              | none => exact e2.elim
              | some p =>
                obtain ⟨j, y⟩ := p
                obtain ⟨e3, e4⟩ := e2
                subst e3
                refine ⟨some (_ + 1, y), ?_, rfl, e4⟩
                simpa [Instr.findNow, Instr.sameNow, hne', Nat.add_assoc, Nat.add_comm 1] using e1
          | _ => cases hks'.1
        | _ => cases hk
    obtain ⟨r', e1, e2⟩ := main es l r 0 hks ce hf
    refine ⟨r', ?_, e2⟩
    simp only [Instr.findKey, Sem.run_bind, run_underlying hu, Result.andThen_ok, e1]
    cases r' <;> simp
  same v x y ρ Φ w h c1 c2 := by
    cases v with
    | int k' n => have hx : x = .int k' n := by simpa only [Con] using c1
                  have hy : y = .int k' n := by simpa only [Con] using c2
                  subst hx; subst hy; simp [Instr.keyThatStays, sameBits_int]
    | _ => cases h

/-! ### Keys of numbers -/
section
variable {P : Program}
def ChkS (P : Program) (d : Nat) (t : TypeId) (ks : List IntKind) : Prop :=
  ∀ (w : World) (X : Array Value) (off : Nat) (ns : List Int), ns.length = ks.length → (X.toList.drop off).take ks.length = mkI ks ns →
    ∃ a, (part t X off).run P w = .ok a w ∧ ∀ e j, (Instr.checkKey e (d + j) t a).run P w = .ok () w
theorem flat_chk : ∀ (d : Nat) (t : TypeId) (ks : List IntKind), flatT P d t = some ks → ChkS P d t ks
  | 0, t, ks, h => by cases h
  | d + 1, t, ks, h => by
    intro w X off ns h1 h3
    have h0 := h
    unfold flatT at h
    cases hu : P.underlying t with
    | none => simp [hu] at h
    | some td =>
      obtain ⟨i, hi⟩ := info_of_underlying hu
      rw [hu] at h
      cases td
      case int k =>
        simp only at h; cases h
        match ns, h1 with
        | [n], _ =>
          have e1 : X[off]? = some (.int k n) := by
            have := congrArg (fun l => l[0]?) h3; simpa [mkI] using this
          exact ⟨.int k n, by simp [part, isAgg, run_underlying hu, e1], fun e j => by rw [show d + 1 + j = (d + j) + 1 by omega]; simp [Instr.checkKey, run_underlying hu]⟩
      case struct fs =>
        simp only at h
        split at h
        · rename_i hh
          rw [h] at hh
          have hsz : (Go.sizeOf t).run P w = .ok ks.length w := by rw [run_sizeOf w hi]; rw [hh.2]; rfl
          refine ⟨.agg (X.extract off (off + ks.length)), by simp [part, isAgg, run_underlying hu, hsz], fun e j => ?_⟩
          have h3' : ((X.extract off (off + ks.length)).toList.drop 0).take ks.length = mkI ks ns := by rw [extract_eq, List.drop_zero, List.take_take, Nat.min_self]; exact h3
          rw [show d + 1 + j = (d + j) + 1 by omega, Instr.checkKey]
          simp only [Sem.run_bind, run_underlying hu, Result.andThen_ok]
          rw [← Array.forIn_toList]
          generalize X.extract off (off + ks.length) = Y at h3'
          clear hh hsz h0 h3 hi hu
          generalize fs.toList = L at h
          generalize (0 : Nat) = o at h h3'
          induction L generalizing o ks ns with
          | nil => simp
          | cons f L ih =>
            simp only [flatF] at h
            split at h
            · rename_i hf
              split at h
              · rename_i l hl
                split at h
                · rename_i m hm
                  cases h
                  rw [mkI_app h1] at h3'
                  have n1 : (ns.take l.length).length = l.length := by simp at h1 ⊢; omega
                  rw [List.length_append] at h3'
                  obtain ⟨a1, a2⟩ := take_drop_app h3' (mkI_len n1)
                  obtain ⟨a, p1, p2⟩ := flat_chk d f.type l hl w Y o (ns.take l.length) n1 a1
                  have hrr := ih m (ns.drop l.length) (by simp at h1 ⊢; omega) (o + l.length) hm a2
                  simp only [List.forIn_cons, Sem.run_bind, hf.1, ne_eq, not_false_eq_true, if_true, hf.2, p1, p2, Result.andThen_ok, Sem.run_pure]
                  exact hrr
                · cases h
              · cases h
            · cases h
        · cases h
      case array n el =>
        simp only at h
        split at h
        · rename_i l hl
          split at h
          · rename_i hh
            cases h
            have hsz : (Go.sizeOf t).run P w = .ok (List.replicate n l).flatten.length w := by rw [run_sizeOf w hi, hh.1]
            refine ⟨.agg (X.extract off (off + (List.replicate n l).flatten.length)), by simp only [part, isAgg, run_underlying hu, hsz, Sem.run_bind, Result.andThen_ok, Sem.run_pure, if_true], fun e j => ?_⟩
            have hie : ∃ i, P.info? el = some i := by
              cases d with
              | zero => cases hl
              | succ d =>
                unfold flatT at hl
                cases hue : P.underlying el with
                | none => simp [hue] at hl
                | some _ => exact info_of_underlying hue
            obtain ⟨ie, hie⟩ := hie
            have hse : (Go.sizeOf el).run P w = .ok l.length w := by rw [run_sizeOf w hie, hh.2]
            have key : ∀ (m a : Nat) (ns : List Int) (Y : Array Value), ns.length = (List.replicate m l).flatten.length → (Y.toList.drop (a * l.length)).take (List.replicate m l).flatten.length = mkI (List.replicate m l).flatten ns →
                (forIn (List.range' a m) PUnit.unit fun i _ => (do Instr.checkKey e (d + j) el (← part el Y (i * (← Go.sizeOf el))); pure (ForInStep.yield PUnit.unit) : Sem (ForInStep PUnit))).run P w = .ok () w := by
              intro m
              induction m with
              | zero => intro a ns Y _ _; simp
              | succ m ih =>
                intro a ns Y h1 h3
                rw [List.replicate_succ, List.flatten_cons] at h1 h3
                rw [mkI_app h1] at h3
                have n1 : (ns.take l.length).length = l.length := by simp at h1 ⊢; omega
                rw [List.length_append] at h3
                obtain ⟨a1, a2⟩ := take_drop_app h3 (mkI_len n1)
                obtain ⟨x, p1, p2⟩ := flat_chk d el l hl w Y (a * l.length) (ns.take l.length) n1 a1
                have hrr := ih (a + 1) (ns.drop l.length) Y (by rw [List.length_drop, h1, List.length_append]; omega) (by rw [Nat.add_mul, Nat.one_mul]; exact a2)
                simp only [List.range'_succ, List.forIn_cons, Sem.run_bind, hse, p1, p2, Result.andThen_ok, Sem.run_pure]
                exact hrr
            have := key n 0 ns (X.extract off (off + (List.replicate n l).flatten.length)) h1 (by rw [Nat.zero_mul, extract_eq, List.drop_zero, List.take_take, Nat.min_self]; exact h3)
            rw [show d + 1 + j = (d + j) + 1 by omega, Instr.checkKey]
            simp only [Sem.run_bind, run_underlying hu, Result.andThen_ok]
            simp only [Std.Legacy.Range.forIn_eq_forIn_range', Std.Legacy.Range.size, Nat.sub_zero, Nat.add_one_sub_one, Nat.div_one]
            simp at this ⊢
            rw [this]; rfl
          · cases h
        · cases h
      all_goals (simp at h; done)
end
theorem part_whole {P : Program} {t : TypeId} {ks : List IntKind} (h : TyEq P t ks) {ns : List Int} (h1 : ns.length = ks.length) {w : World} {a : Value} (e1 : (part t (mkI ks ns).toArray 0).run P w = .ok a w) : a = .agg (mkI ks ns).toArray := by
  have hag : (isAgg t).run P w = .ok true w := by
    have := h.agg
    split at this
    · rename_i n e hu; simp [isAgg, run_underlying hu]
    · rename_i fs hu; simp [isAgg, run_underlying hu]
    · cases this
  have hsz : (Go.sizeOf t).run P w = .ok ks.length w := by
    have hk := h.ok
    unfold flatT at hk
    cases hu : P.underlying t with
    | none => rw [hu] at hk; cases hk
    | some td =>
      obtain ⟨i, hi⟩ := info_of_underlying hu
      rw [run_sizeOf w hi]
      rw [hu] at hk
      have hag := h.agg; rw [hu] at hag
      cases td <;> simp only [Bool.false_eq_true] at hag
      · simp only at hk
        split at hk
        · split at hk
          · rename_i hh; cases hk; rw [hh.1]
          · cases hk
        · cases hk
      · simp only at hk
        split at hk
        · rename_i hh; rw [hk] at hh; rw [hh.2]; rfl
        · cases hk
  simp only [part, hag, hsz, Sem.run_bind, Result.andThen_ok, if_true, Sem.run_pure] at e1
  cases e1
  congr 1
  apply Array.ext'
  rw [extract_eq, List.drop_zero, List.take_of_length_le (by simp [mkI_len h1])]
theorem okFlat_con {ks : List IntKind} {v : AV} (h : okFlat ks v = true) : ∃ cs ns, v = .agg cs ∧ numsOf cs = some ns ∧ kindsA cs = ks := by
  cases v with
  | agg cs =>
    simp only [okFlat] at h
    split at h
    · rename_i ns hn; exact ⟨cs, ns, rfl, hn, by simpa using h⟩
    · cases h
  | _ => cases h
theorem nums_inj : ∀ {cs ds : List AV} {ns : List Int}, numsOf cs = some ns → numsOf ds = some ns → kindsA cs = kindsA ds → cs = ds
  | [], [], _, _, _, _ => rfl
  | [], .int k n :: l, _, _, _, h => by cases h
  | .int k n :: l, [], _, _, _, h => by cases h
  | .int k n :: l, .int k' n' :: l', ns, h1, h2, h3 => by
    simp only [numsOf] at h1 h2
    split at h1
    · rename_i m hm
      split at h2
      · rename_i m' hm'
        cases h1; cases h2
        simp only [kindsA, List.cons.injEq] at h3
        rw [h3.1, nums_inj hm hm' h3.2]
      · cases h2
    · cases h1
theorem sameBits_ints {ks : List IntKind} : ∀ {ns : List Int} {n : Nat}, (mkI ks ns).zip (mkI ks ns) |>.all (fun (x, y) => Instr.sameBits n x y) := by
  intro ns n
  rw [List.all_eq_true]
  rintro ⟨x, y⟩ hxy
  have : ∀ (l : List Value) (p : Value × Value), p ∈ l.zip l → p.1 = p.2 ∧ p.1 ∈ l := by
    intro l
    induction l with
    | nil => intro p hp; simp at hp
    | cons a l ih =>
      intro p hp
      rw [List.zip_cons_cons] at hp
      rcases List.mem_cons.1 hp with rfl | hp
      · exact ⟨rfl, by simp⟩
      · exact ⟨(ih p hp).1, by simp [(ih p hp).2]⟩
  obtain ⟨e1, e2⟩ := this _ _ hxy
  simp only at e1 e2
  subst e1
  unfold mkI at e2
  have hz : ∀ (ks : List IntKind) (ns : List Int), x ∈ List.zipWith Value.int ks ns → ∃ k m, x = .int k m := by
    intro ks
    induction ks with
    | nil => intro ns h; simp at h
    | cons k ks ih =>
      intro ns h
      cases ns with
      | nil => simp at h
      | cons m ns =>
        rw [List.zipWith_cons_cons] at h
        rcases List.mem_cons.1 h with rfl | h
        · exact ⟨_, _, rfl⟩
        · exact ih ns h
  obtain ⟨k, m, rfl⟩ := hz ks ns e2
  exact sameBits_int
theorem TyKey.of_flat {P : Program} {kt : TypeId} {ks : List IntKind} (hT : TyEq P kt ks) : TyKey P kt (okFlat ks) where
  check e v x ρ Φ w h c := by
    obtain ⟨cs, ns, rfl, h1, h2⟩ := okFlat_con h
    obtain ⟨e1, e2⟩ := numsOf_agg h1 c
    rw [h2] at e1 e2
    obtain ⟨a, p1, p2⟩ := flat_chk 9 kt ks hT.ok w (mkI ks ns).toArray 0 ns e2 (by rw [List.drop_zero, List.take_of_length_le (by simp [mkI_len e2])])
    have := part_whole hT e2 p1
    subst this
    rw [e1]; exact p2 e 9991
  find := by
    intro ρ Φ w key x es l r hk hks c ce hf
    obtain ⟨cs, ns, rfl, h1, h2⟩ := okFlat_con hk
    obtain ⟨e1, e2⟩ := numsOf_agg h1 c
    rw [h2] at e1 e2
    rw [run_findKey_eq w hT.agg]
    have main : ∀ (es : List (AV × AV × Nat)) (l : List MapEntry) (r : Option (Nat × AV)) (i : Nat), keysOk (okFlat ks) es = true → ConE ρ Φ w es l → FindK (.agg cs) es r → ∃ r', (Instr.findAsking kt x l i).run P w = .ok (r'.map fun p => (p.1 + i, p.2)) w ∧ FoundAs ρ Φ w r r' := by
      intro es
      induction es with
      | nil =>
        intro l r i _ ce hf
        simp only [ConE] at ce; subst ce
        cases hf
        exact ⟨none, by simp [Instr.findAsking], trivial⟩
      | cons q es ih =>
        obtain ⟨k1, v1, n1⟩ := q
        intro l r i hks ce hf
        have hks' : okFlat ks k1 = true ∧ keysOk (okFlat ks) es = true := by simpa only [keysOk, Bool.and_eq_true] using hks
        simp only [ConE] at ce
        obtain ⟨xk, xv, l', rfl, c1, c2, c3⟩ := ce
        obtain ⟨ds, ms, rfl, g1, g2⟩ := okFlat_con hks'.1
        obtain ⟨f1, f2⟩ := numsOf_agg g1 c1
        rw [g2] at f1 f2
        have heq := hT.run e2 f2 w
        subst e1; subst f1
        have neq : ∀ (hne : AV.agg ds ≠ .agg cs), ns ≠ ms := fun hne e => hne (by rw [nums_inj g1 (e ▸ h1) (g2.trans h2.symm)])
        cases hf with
        | hit =>
          have : ns = ms := by rw [h1] at g1; cases g1; rfl
          subst this
          exact ⟨some (0, xv), by simp [Instr.findAsking, heq], rfl, c2⟩
        | miss0 hne hr =>
          obtain ⟨r', e3, e4⟩ := ih l' none (i + 1) hks'.2 c3 hr
          refine ⟨none, ?_, trivial⟩
          have : r' = none := by
            cases r' with
            | none => rfl
            | some p => exact e4.elim
          subst this
          simpa [Instr.findAsking, heq, neq hne] using e3
        | miss hne hr =>
          obtain ⟨r', e3, e4⟩ := ih l' _ (i + 1) hks'.2 c3 hr
          cases r' with
          | none => exact e4.elim
          | some p =>
            obtain ⟨j, y⟩ := p
            obtain ⟨e5, e6⟩ := e4
            subst e5
            refine ⟨some (_ + 1, y), ?_, rfl, e6⟩
            simpa [Instr.findAsking, heq, neq hne, Nat.add_assoc, Nat.add_comm 1] using e3
    obtain ⟨r', e3, e4⟩ := main es l r 0 hks ce hf
    refine ⟨r', ?_, e4⟩
    rw [e3]; cases r' <;> simp
  same v x y ρ Φ w h c1 c2 := by
    obtain ⟨cs, ns, rfl, h1, h2⟩ := okFlat_con h
    obtain ⟨e1, e2⟩ := numsOf_agg h1 c1
    obtain ⟨e3, e4⟩ := numsOf_agg h1 c2
    subst e1; subst e3
    have := sameBits_ints (ks := kindsA cs) (ns := ns) (n := 9999)
    simp only [Instr.keyThatStays, Instr.sameBits]
    simp [this]
end Go.AE
end

section
/- Abstract states, seventeenth part: operations on maps, copy, clear. -/
namespace Go.AE
open Go.RowKit

theorem conE_len {ρ : Env} {Φ : Fz} {w : World} : ∀ {es : List (AV × AV × Nat)} {l : List MapEntry}, ConE ρ Φ w es l → l.length = es.length
  | [], l, h => by simp only [ConE] at h; subst h; rfl
  | (k, v, n) :: es, l, h => by
    simp only [ConE] at h; obtain ⟨x, y, l', rfl, _, _, h3⟩ := h; simp [conE_len h3]
theorem conE_append {ρ : Env} {Φ : Fz} {w : World} : ∀ {es fs : List (AV × AV × Nat)} {l m : List MapEntry}, ConE ρ Φ w es l → ConE ρ Φ w fs m → ConE ρ Φ w (es ++ fs) (l ++ m)
  | [], fs, l, m, h, k => by simp only [ConE] at h; subst h; simpa using k
  | (a, v, n) :: es, fs, l, m, h, k => by
    simp only [ConE] at h; obtain ⟨x, y, l', rfl, h1, h2, h3⟩ := h
    rw [List.cons_append, List.cons_append]; simp only [ConE]; exact ⟨x, y, _, rfl, h1, h2, conE_append h3 k⟩
theorem conE_one {ρ : Env} {Φ : Fz} {w : World} {k v : AV} {n : Nat} {x y : Value} (h1 : Con ρ Φ w k x) (h2 : Con ρ Φ w v y) : ConE ρ Φ w [(k, v, n)] [⟨x, y, n⟩] := by
  simp only [ConE]; exact ⟨x, y, [], rfl, h1, h2, rfl⟩
theorem conE_erase {ρ : Env} {Φ : Fz} {w : World} : ∀ {es : List (AV × AV × Nat)} {l : List MapEntry} (i : Nat), ConE ρ Φ w es l → ConE ρ Φ w (es.eraseIdx i) (l.eraseIdx i)
  | [], l, i, h => by simp only [ConE] at h; subst h; simp [ConE]
  | (a, v, n) :: es, l, 0, h => by simp only [ConE] at h; obtain ⟨x, y, l', rfl, h1, h2, h3⟩ := h; simpa using h3
  | (a, v, n) :: es, l, i + 1, h => by
    simp only [ConE] at h; obtain ⟨x, y, l', rfl, h1, h2, h3⟩ := h
    rw [List.eraseIdx_cons_succ, List.eraseIdx_cons_succ]; simp only [ConE]; exact ⟨x, y, _, rfl, h1, h2, conE_erase i h3⟩
theorem conE_get {ρ : Env} {Φ : Fz} {w : World} : ∀ {es : List (AV × AV × Nat)} {l : List MapEntry} (i : Nat) {k v : AV} {n : Nat}, ConE ρ Φ w es l → es[i]? = some (k, v, n) → ∃ x y, l[i]? = some ⟨x, y, n⟩ ∧ Con ρ Φ w k x ∧ Con ρ Φ w v y
  | [], l, i, k, v, n, h, e => by simp at e
  | (a, u, m) :: es, l, 0, k, v, n, h, e => by
    simp only [ConE] at h; obtain ⟨x, y, l', rfl, h1, h2, h3⟩ := h
    simp at e; obtain ⟨rfl, rfl, rfl⟩ := e; exact ⟨x, y, by simp, h1, h2⟩
  | (a, u, m) :: es, l, i + 1, k, v, n, h, e => by
    simp only [ConE] at h; obtain ⟨x, y, l', rfl, h1, h2, h3⟩ := h
    simp only [List.getElem?_cons_succ] at e ⊢; exact conE_get i h3 e
theorem conE_set {ρ : Env} {Φ : Fz} {w : World} : ∀ {es : List (AV × AV × Nat)} {l : List MapEntry} (i : Nat) {k v : AV} {n : Nat} {x y : Value}, ConE ρ Φ w es l → Con ρ Φ w k x → Con ρ Φ w v y → ConE ρ Φ w (es.set i (k, v, n)) (l.set i ⟨x, y, n⟩)
  | [], l, i, k, v, n, x, y, h, _, _ => by simp only [ConE] at h; subst h; simp [ConE]
  | (a, u, m) :: es, l, 0, k, v, n, x, y, h, hk, hv => by
    simp only [ConE] at h; obtain ⟨x', y', l', rfl, h1, h2, h3⟩ := h
    rw [List.set_cons_zero, List.set_cons_zero]; simp only [ConE]; exact ⟨x, y, l', rfl, hk, hv, h3⟩
  | (a, u, m) :: es, l, i + 1, k, v, n, x, y, h, hk, hv => by
    simp only [ConE] at h; obtain ⟨x', y', l', rfl, h1, h2, h3⟩ := h
    rw [List.set_cons_succ, List.set_cons_succ]; simp only [ConE]; exact ⟨x', y', _, rfl, h1, h2, conE_set i h3 hk hv⟩
theorem findK_get {key : AV} : ∀ {es : List (AV × AV × Nat)} {i : Nat} {v : AV}, FindK key es (some (i, v)) → ∃ n, es[i]? = some (key, v, n)
  | _, _, _, .hit v n es => ⟨n, by simp⟩
  | _, _, _, .miss _ r => by obtain ⟨n, h⟩ := findK_get r; exact ⟨n, by simpa using h⟩

theorem modify_set {α : Type} (f : α → α) : ∀ {l : List α} {i : Nat} {a : α}, l[i]? = some a → l.modify i f = l.set i (f a)
  | [], _, _, h => by simp at h
  | b :: l, 0, a, h => by simp at h; subst h; simp
  | b :: l, i + 1, a, h => by simp at h ⊢; exact modify_set f h
section ops
variable {C : Ctx} {T : AT} {H : AH} {nx : Nat} {d : Option Tmp} {ty : TypeId} {pos : String} {after : Array Edge} {g : Option (Nat × Bool)}
theorem U_makeMap {t : TypeId} : OpU C ⟨d, .makeMap t none, ty, pos, after, g⟩ T H nx (.mapl nx) [(nx, some (.map [] 0))] (nx + 1) :=
  OpU.of_run (by intro c; simp) fun ρ Φ a w hf h2 h3 => by
    have hp := Post.new h3 (nx := nx) (hf nx (Nat.le_refl _) (Nat.lt_succ_self _)) (k := .map [] 0) (o := .map #[] 0) 0 0 ⟨[], by simp [ConE], rfl⟩
    refine ⟨ρ.upd nx (w.heap.size, 0, 0), Φ, .map (some w.heap.size), w.alloc (.map #[] 0), .inl ?_, ?_, by simp only [Con]; exact ⟨_, Env.upd_same _ _ _, rfl⟩⟩
    · simp only [execOp, Instr.makeMap, Option.map_none]
      simp
    · rw [List.cons_append, List.nil_append, gt_upG]; exact hp.more (by simp)
theorem map_at {ρ : Env} {Φ : Fz} {w : World} {Wr : Nat → Prop} {w0 : World} {b : Nat} {es : List (AV × AV × Nat)} {ck : Nat} {x : Value} (hm : Mem Wr w0 ρ Φ (gt H) w) (hg : gt H b = some (.map es ck)) (h : Con ρ Φ w (.mapl b) x) :
    ∃ y l, ρ b = some y ∧ x = .map (some y.1) ∧ w.heap[y.1]? = some (.map l.toArray ck) ∧ ConE ρ Φ w es l := by
  simp only [Con] at h
  obtain ⟨y, h1, h2⟩ := h
  obtain ⟨y', o, e1, e2, l, e3, rfl⟩ := hm.at_ _ _ hg
  rw [h1] at e1; cases e1
  exact ⟨y, l, h1, h2, e2, e3⟩
theorem run_getMap {P : Program} {w : World} {r : Nat} {es : Array MapEntry} {ck : Nat} (h : w.heap[r]? = some (.map es ck)) : (getObj r).run P w = .ok (.map es ck) w := by simp [getObj, Sem.run, h]
theorem run_setMap {P : Program} {w : World} {r : Nat} {es : Array MapEntry} {ck : Nat} (o : Obj) (h : w.heap[r]? = some (.map es ck)) : (setObj r o).run P w = .ok () (w.putObj r o) := by simp [setObj, Sem.run, h, World.putObj]
/-- The value at a key. -/
theorem U_lookup {t kt et : TypeId} {x i : Operand} {b ck j : Nat} {key v : AV} {es : List (AV × AV × Nat)} {ok : AV → Bool} [hM : TyMap C.P t kt et] [hK : TyKey C.P kt ok] (hx : ev T x = some (.mapl b)) (hi : ev T i = some key) (hg : gt H b = some (.map es ck)) (hk : ok key = true) (hks : keysOk ok es = true)
    (hf : FindK key es (some (j, v))) : OpU C ⟨d, .lookup t x i false, ty, pos, after, g⟩ T H nx v [] nx :=
  OpU.of_value (by intro c; simp) fun ρ Φ a w h2 h3 => by
    obtain ⟨y, l, e1, e2, e3, e4⟩ := map_at h3 hg (ev_con h2 hx)
    obtain ⟨r', f1, f2⟩ := hK.find ρ Φ w key _ es l _ hk hks (ev_con h2 hi) e4 hf
    cases r' with
    | none => exact f2.elim
    | some p =>
      obtain ⟨j', z⟩ := p
      obtain ⟨rfl, f3⟩ := f2
      refine ⟨z, ?_, f3⟩
      simp only [execOp, Instr.lookup, Sem.run_bind, run_underlying hM.un, Result.andThen_ok, e2, run_getMap e3, Sem.run_pure, hK.check _ _ _ _ _ _ hk (ev_con h2 hi), f1, Bool.false_eq_true, if_false]
theorem U_lookup0 {t kt et : TypeId} {x i : Operand} {b ck : Nat} {key v : AV} {es : List (AV × AV × Nat)} {ok : AV → Bool} {zs : List AV} [hM : TyMap C.P t kt et] [hK : TyKey C.P kt ok] [hZ : TyZero C.P et zs] (hx : ev T x = some (.mapl b)) (hi : ev T i = some key) (hg : gt H b = some (.map es ck)) (hk : ok key = true) (hks : keysOk ok es = true)
    (hf : FindK key es none) (hv : zs = [v]) (hz : ∀ z, (∀ w, (zeroValue et).run C.P w = .ok z w) → z.cells = #[z]) : OpU C ⟨d, .lookup t x i false, ty, pos, after, g⟩ T H nx v [] nx :=
  OpU.of_value (by intro c; simp) fun ρ Φ a w h2 h3 => by
    obtain ⟨y, l, e1, e2, e3, e4⟩ := map_at h3 hg (ev_con h2 hx)
    obtain ⟨r', f1, f2⟩ := hK.find ρ Φ w key _ es l _ hk hks (ev_con h2 hi) e4 hf
    cases r' with
    | some p => exact f2.elim
    | none =>
      obtain ⟨z, g1, g2⟩ := hZ.zero
      refine ⟨z, ?_, ?_⟩
      · simp only [execOp, Instr.lookup, Sem.run_bind, run_underlying hM.un, Result.andThen_ok, e2, run_getMap e3, Sem.run_pure, hK.check _ _ _ _ _ _ hk (ev_con h2 hi), f1, Bool.false_eq_true, if_false, g1 w]
      · have := cvSL_con (ρ := ρ) (Φ := Φ) (w := w) g2
        rw [hz z g1, hv] at this
        obtain ⟨y, ys, e5, e6, _⟩ := conL_inv this
        simp at e5; rw [e5.1]; exact e6
/-- .. and whether there is one. -/
theorem U_lookupOk {t kt et : TypeId} {x i : Operand} {b ck j : Nat} {key v : AV} {es : List (AV × AV × Nat)} {ok : AV → Bool} [hM : TyMap C.P t kt et] [hK : TyKey C.P kt ok] (hx : ev T x = some (.mapl b)) (hi : ev T i = some key) (hg : gt H b = some (.map es ck)) (hk : ok key = true) (hks : keysOk ok es = true)
    (hf : FindK key es (some (j, v))) : OpU C ⟨d, .lookup t x i true, ty, pos, after, g⟩ T H nx (.tup [v, .bool true]) [] nx :=
  OpU.of_value (by intro c; simp) fun ρ Φ a w h2 h3 => by
    obtain ⟨y, l, e1, e2, e3, e4⟩ := map_at h3 hg (ev_con h2 hx)
    obtain ⟨r', f1, f2⟩ := hK.find ρ Φ w key _ es l _ hk hks (ev_con h2 hi) e4 hf
    cases r' with
    | none => exact f2.elim
    | some p =>
      obtain ⟨j', z⟩ := p
      obtain ⟨rfl, f3⟩ := f2
      refine ⟨.tuple #[z, .bool true], ?_, by simp only [Con]; exact ⟨[z, .bool true], conL_cons f3 (conL_cons mk_bool conL_nil), rfl⟩⟩
      simp only [execOp, Instr.lookup, Sem.run_bind, run_underlying hM.un, Result.andThen_ok, e2, run_getMap e3, Sem.run_pure, hK.check _ _ _ _ _ _ hk (ev_con h2 hi), f1, if_true]
/-- A new entry. -/
theorem run_update_new {w : World} {ρ : Env} {Φ : Fz} {t kt et : TypeId} {ok : AV → Bool} [hM : TyMap C.P t kt et] [hK : TyKey C.P kt ok] {r ck : Nat} {key : AV} {kx vx : Value} {es : List (AV × AV × Nat)} {l : List MapEntry} (e3 : w.heap[r]? = some (.map l.toArray ck)) (e4 : ConE ρ Φ w es l) (hc : Con ρ Φ w key kx) (hk : ok key = true) (hks : keysOk ok es = true) (hf : FindK key es none) :
    (Instr.mapUpdate t (.map (some r)) kx vx).run C.P w = .ok () (w.putObj r (.map (l ++ [(⟨kx, vx, ck⟩ : MapEntry)]).toArray (ck + 1))) := by
  obtain ⟨r', f1, f2⟩ := hK.find ρ Φ w key _ es l _ hk hks hc e4 hf
  cases r' with
  | some p => exact f2.elim
  | none => simp [Instr.mapUpdate, run_underlying hM.un, run_getMap e3, hK.check _ _ _ _ _ _ hk hc, f1, run_setMap _ e3]
theorem run_update_old {w : World} {ρ : Env} {Φ : Fz} {t kt et : TypeId} {ok : AV → Bool} [hM : TyMap C.P t kt et] [hK : TyKey C.P kt ok] {r ck i n : Nat} {key v : AV} {kx vx : Value} {es : List (AV × AV × Nat)} {l : List MapEntry} (e3 : w.heap[r]? = some (.map l.toArray ck)) (e4 : ConE ρ Φ w es l) (hc : Con ρ Φ w key kx) (hk : ok key = true) (hks : keysOk ok es = true) (hf : FindK key es (some (i, v))) (hn : es[i]? = some (key, v, n)) :
    (Instr.mapUpdate t (.map (some r)) kx vx).run C.P w = .ok () (w.putObj r (.map (l.set i (⟨kx, vx, n⟩ : MapEntry)).toArray ck)) := by
  obtain ⟨r', f1, f2⟩ := hK.find ρ Φ w key _ es l _ hk hks hc e4 hf
  cases r' with
  | none => exact f2.elim
  | some p =>
    obtain ⟨j', z⟩ := p
    obtain ⟨rfl, _⟩ := f2
    obtain ⟨x0, y0, g1, g2, _⟩ := conE_get i e4 hn
    have hsame := hK.same key x0 kx ρ Φ w hk g2 hc
    simp only [Instr.mapUpdate, Sem.run_bind, run_underlying hM.un, run_getMap e3, hK.check _ _ _ _ _ _ hk hc, f1, Result.andThen_ok, List.getElem?_toArray, g1, Option.map_some, Option.getD_some, hsame, run_setMap _ e3]
    congr 3
    rw [List.modify_toArray]
    congr 1
    exact modify_set _ g1
theorem U_insert {t kt et : TypeId} {x i y : Operand} {b ck : Nat} {key v : AV} {es : List (AV × AV × Nat)} {ok : AV → Bool} [hM : TyMap C.P t kt et] [hK : TyKey C.P kt ok] (hx : ev T x = some (.mapl b)) (hi : ev T i = some key) (hy : ev T y = some v) (hg : gt H b = some (.map es ck)) (hk : ok key = true) (hks : keysOk ok es = true) (hf : FindK key es none) :
    OpU C ⟨d, .insert t x i y, ty, pos, after, g⟩ T H nx (.tup []) [(b, some (.map (es ++ [(key, v, ck)]) (ck + 1)))] nx :=
  OpU.of_run (by intro c; simp) fun ρ Φ a w _ h2 h3 => by
    obtain ⟨z, l, e1, e2, e3, e4⟩ := map_at h3 hg (ev_con h2 hx)
    have hp := Post.set h3 nx (k' := .map (es ++ [(key, v, ck)]) (ck + 1)) hg e1 (oneNew_put (o := .map (l ++ [(⟨a.eval i, a.eval y, ck⟩ : MapEntry)]).toArray (ck + 1)) e3) ⟨_, conE_append e4 (conE_one (ev_con h2 hi) (ev_con h2 hy)), rfl⟩
    refine ⟨ρ, Φ, undef, w.putObj z.1 (.map (l ++ [(⟨a.eval i, a.eval y, ck⟩ : MapEntry)]).toArray (ck + 1)), .inr ⟨?_, rfl⟩, ?_, by simp [Con, undef, ConL]⟩
    · have := run_update_new (C := C) (t := t) (vx := a.eval y) e3 e4 (ev_con h2 hi) hk hks hf
      simp only [execOp, e2, Sem.run_bind, this, Result.andThen_ok]; rfl
    · rw [List.cons_append, List.nil_append, gt_upG]; exact hp
theorem U_mapUpdate {t kt et : TypeId} {x i y : Operand} {b ck : Nat} {key v : AV} {es : List (AV × AV × Nat)} {ok : AV → Bool} [hM : TyMap C.P t kt et] [hK : TyKey C.P kt ok] (hx : ev T x = some (.mapl b)) (hi : ev T i = some key) (hy : ev T y = some v) (hg : gt H b = some (.map es ck)) (hk : ok key = true) (hks : keysOk ok es = true) (hf : FindK key es none) :
    OpU C ⟨d, .mapUpdate t x i y, ty, pos, after, g⟩ T H nx (.tup []) [(b, some (.map (es ++ [(key, v, ck)]) (ck + 1)))] nx :=
  OpU.of_run (by intro c; simp) fun ρ Φ a w _ h2 h3 => by
    obtain ⟨z, l, e1, e2, e3, e4⟩ := map_at h3 hg (ev_con h2 hx)
    have hp := Post.set h3 nx (k' := .map (es ++ [(key, v, ck)]) (ck + 1)) hg e1 (oneNew_put (o := .map (l ++ [(⟨a.eval i, a.eval y, ck⟩ : MapEntry)]).toArray (ck + 1)) e3) ⟨_, conE_append e4 (conE_one (ev_con h2 hi) (ev_con h2 hy)), rfl⟩
    refine ⟨ρ, Φ, undef, w.putObj z.1 (.map (l ++ [(⟨a.eval i, a.eval y, ck⟩ : MapEntry)]).toArray (ck + 1)), .inr ⟨?_, rfl⟩, ?_, by simp [Con, undef, ConL]⟩
    · have := run_update_new (C := C) (t := t) (vx := a.eval y) e3 e4 (ev_con h2 hi) hk hks hf
      simp only [execOp, e2, Sem.run_bind, this, Result.andThen_ok]; rfl
    · rw [List.cons_append, List.nil_append, gt_upG]; exact hp
theorem U_mapUpdateOld {t kt et : TypeId} {x i y : Operand} {b ck j n : Nat} {key v u : AV} {es : List (AV × AV × Nat)} {ok : AV → Bool} [hM : TyMap C.P t kt et] [hK : TyKey C.P kt ok] (hx : ev T x = some (.mapl b)) (hi : ev T i = some key) (hy : ev T y = some v) (hg : gt H b = some (.map es ck)) (hk : ok key = true) (hks : keysOk ok es = true) (hf : FindK key es (some (j, u))) (hn : es[j]? = some (key, u, n)) :
    OpU C ⟨d, .mapUpdate t x i y, ty, pos, after, g⟩ T H nx (.tup []) [(b, some (.map (es.set j (key, v, n)) ck))] nx :=
  OpU.of_run (by intro c; simp) fun ρ Φ a w _ h2 h3 => by
    obtain ⟨z, l, e1, e2, e3, e4⟩ := map_at h3 hg (ev_con h2 hx)
    have hp := Post.set h3 nx (k' := .map (es.set j (key, v, n)) ck) hg e1 (oneNew_put (o := .map (l.set j (⟨a.eval i, a.eval y, n⟩ : MapEntry)).toArray ck) e3) ⟨_, conE_set j e4 (ev_con h2 hi) (ev_con h2 hy), rfl⟩
    refine ⟨ρ, Φ, undef, w.putObj z.1 (.map (l.set j (⟨a.eval i, a.eval y, n⟩ : MapEntry)).toArray ck), .inr ⟨?_, rfl⟩, ?_, by simp [Con, undef, ConL]⟩
    · have := run_update_old (C := C) (t := t) (vx := a.eval y) e3 e4 (ev_con h2 hi) hk hks hf hn
      simp only [execOp, e2, Sem.run_bind, this, Result.andThen_ok]; rfl
    · rw [List.cons_append, List.nil_append, gt_upG]; exact hp
theorem U_delete {t kt et tk : TypeId} {x i : Operand} {b ck j : Nat} {key u : AV} {es : List (AV × AV × Nat)} {ok : AV → Bool} [hM : TyMap C.P t kt et] [hK : TyKey C.P kt ok] (hx : ev T x = some (.mapl b)) (hi : ev T i = some key) (hg : gt H b = some (.map es ck)) (hk : ok key = true) (hks : keysOk ok es = true) (hf : FindK key es (some (j, u))) :
    OpU C ⟨d, .call ⟨.builtin .delete, #[x, i], #[t, tk]⟩, ty, pos, after, g⟩ T H nx (.tup []) [(b, some (.map (es.eraseIdx j) ck))] nx :=
  OpU.of_run (by intro c; simp) fun ρ Φ a w _ h2 h3 => by
    obtain ⟨z, l, e1, e2, e3, e4⟩ := map_at h3 hg (ev_con h2 hx)
    have hp := Post.set h3 nx (k' := .map (es.eraseIdx j) ck) hg e1 (oneNew_put (o := .map (l.eraseIdx j).toArray ck) e3) ⟨_, conE_erase j e4, rfl⟩
    obtain ⟨r', f1, f2⟩ := hK.find ρ Φ w key _ es l _ hk hks (ev_con h2 hi) e4 hf
    cases r' with
    | none => exact f2.elim
    | some p =>
      obtain ⟨j', zz⟩ := p
      obtain ⟨rfl, f3⟩ := f2
      refine ⟨ρ, Φ, .tuple #[], w.putObj z.1 (.map (l.eraseIdx j).toArray ck), .inl ?_, ?_, by simp only [Con]; exact ⟨[], conL_nil, rfl⟩⟩
      · have hE : l.toArray.eraseIdxIfInBounds j = (l.eraseIdx j).toArray := by simp
        simp only [execOp, resolve, Sem.run_bind, Sem.run_pure, Result.andThen_ok, invoke, builtin]
        simp only [Builtin.delete_, List.map_toArray, List.map_cons, List.map_nil, List.getElem?_toArray, List.getElem?_cons_zero, List.getElem?_cons_succ, Sem.run_bind, run_underlying hM.un, Result.andThen_ok, e2, run_getMap e3, hK.check _ _ _ _ _ _ hk (ev_con h2 hi), f1, run_setMap _ e3, hE, Sem.run_pure]
      · rw [List.cons_append, List.nil_append, gt_upG]; exact hp

/-! ### copy, clear -/
theorem U_copy {dT sT e z n b o c : Nat} {x y : Operand} {v : AV} {cs news cs' : List AV} {te : TypeId} [hT : TySl C.P dT e z] (hx : ev T x = some (.slice b o n c)) (hy : ev T y = some v) (hg : gt H b = some (.cells cs te)) (hl : o + n * z ≤ cs.length) (h2 : srcS z H v = some (news, n)) (h1 : news.all AV.one = true) (hs : setC cs o news = cs') :
    OpU C ⟨d, .call ⟨.builtin .copy, #[x, y], #[dT, sT]⟩, ty, pos, after, g⟩ T H nx (.int .i64 n) [(b, some (.cells cs' te))] nx :=
  OpU.of_run (by intro c; simp) fun ρ Φ a w _ h3 h4 => by
    subst hs
    obtain ⟨ad', k', ys, e4, e5, e6⟩ := srcS_con (P := C.P) h4 h2 (ev_con h3 hy)
    have hcx := ev_con h3 hx
    simp only [Con] at hcx
    obtain ⟨yy, f1, f2⟩ := hcx
    obtain ⟨yy', ob, f5, f6, pre, xs, rest, f7, f8, f9, rfl⟩ := h4.at_ _ _ hg
    rw [f1] at f5; cases f5
    have hlx := conL_len f7; have hl2 := conL_len e6; have hn2 := srcS_len h2
    obtain ⟨w', hw1, hw2⟩ := run_storeCells (P := C.P) (pre := pre) (rest := rest) (t := te) (r := yy.1) o ys xs 0 w f6 (by omega) (conL_one e6 (by simpa using h1))
    have hp := Post.set h4 nx (k' := .cells (setC cs o news) te) hg f1 hw2 ⟨pre, setC xs o ys, rest, by simpa using conL_setC o f7 e6, f8, by simp [setC_len, f9], by simp⟩
    refine ⟨ρ, Φ, goInt n, w', .inl ?_, ?_, mk_int⟩
    · simp only [execOp, resolve, Sem.run_bind, Sem.run_pure, Result.andThen_ok, invoke, builtin]
      have e5' := e5 w.drawn
      have hst : (storeCells (⟨yy.1, yy.2.1 + o, none⟩ : Addr) ys).run C.P w = .ok () w' := by rw [← f8]; exact hw1
      simp only [Builtin.copy_, List.map_toArray, List.map_cons, List.map_nil, List.getElem?_toArray, List.getElem?_cons_zero, List.getElem?_cons_succ, Sem.run_bind, run_underlying hT.un, Result.andThen_ok, f2, e4, Builtin.lenOf, Sem.run_pure, hT.size, Nat.min_self]
      rw [e4] at e5'
      simp only [e5', Result.andThen_ok, hst]
    · rw [List.cons_append, List.nil_append, gt_upG]; exact hp
end ops
end Go.AE
end

section
/- Abstract states, eighteenth part: values that say less, cases, joins. -/
namespace Go.AE
open Go.RowKit

/-! ### Values that say less -/
def AV.le (v v' : AV) : Prop := ∀ ρ Φ w x, Con ρ Φ w v x → Con ρ Φ w v' x
def leL (l l' : List AV) : Prop := ∀ ρ Φ w x, ConL ρ Φ w l x → ConL ρ Φ w l' x
theorem le_refl (v : AV) : v.le v := fun _ _ _ _ h => h
theorem le_trans {a b c : AV} (h : a.le b) (k : b.le c) : a.le c := fun ρ Φ w x e => k ρ Φ w x (h ρ Φ w x e)
theorem leL_refl (v : List AV) : leL v v := fun _ _ _ _ h => h
theorem leL_cons {v v' : AV} {l l' : List AV} (h : v.le v') (k : leL l l') : leL (v :: l) (v' :: l') := fun ρ Φ w x e => by
  obtain ⟨y, ys, rfl, h1, h2⟩ := conL_inv e; exact conL_cons (h ρ Φ w y h1) (k ρ Φ w ys h2)
theorem le_nils {cs : List AV} : AV.le .nils (.ros cs 0 none) := fun ρ Φ w x h => by
  simp only [Con] at h ⊢; exact .inl ⟨trivial, ⟨_, h⟩, fun m hm => by cases hm⟩
theorem le_nils' {cs : List AV} {n : Nat} (hn : n = 0) : AV.le .nils (.ros cs n none) := by subst hn; exact le_nils
theorem le_cap {cs : List AV} {n : Nat} {c : Option Nat} : AV.le (.ros cs n c) (.ros cs n none) := fun ρ Φ w x h => by
  simp only [Con] at h ⊢
  rcases h with ⟨h1, h2, _⟩ | ⟨r, base, xs, k, h1, h2, h3, _, h5⟩
  · exact .inl ⟨h1, h2, fun m hm => by cases hm⟩
  · exact .inr ⟨r, base, xs, k, h1, h2, h3, fun m hm => (by cases hm), h5⟩
theorem le_agg {l l' : List AV} (h : leL l l') : AV.le (.agg l) (.agg l') := fun ρ Φ w x e => by
  simp only [Con] at e ⊢; obtain ⟨xs, h1, h2⟩ := e; exact ⟨xs, h ρ Φ w xs h1, h2⟩
theorem le_tup {l l' : List AV} (h : leL l l') : AV.le (.tup l) (.tup l') := fun ρ Φ w x e => by
  simp only [Con] at e ⊢; obtain ⟨xs, h1, h2⟩ := e; exact ⟨xs, h ρ Φ w xs h1, h2⟩
theorem le_rop {l l' : List AV} {o : Nat} (h : leL l l') (hd : dataL l') : AV.le (.rop l o) (.rop l' o) := fun ρ Φ w x e => by
  simp only [Con] at e ⊢; obtain ⟨r, base, xs, h1, h2, h3, h4, _⟩ := e; exact ⟨r, base, xs, h1, h2, h ρ Φ w xs h3, h4, hd⟩
theorem le_fn {f : FuncId} {a a' b b' : List AV} (h : leL a a') (k : leL b b') : AV.le (.fn f a b) (.fn f a' b') := fun ρ Φ w x e => by
  simp only [Con] at e ⊢; obtain ⟨xs, ys, h1, h2, h3⟩ := e; exact ⟨xs, ys, h ρ Φ w xs h1, k ρ Φ w ys h2, h3⟩
theorem Pure.weak {P : Program} {f : FuncId} {a a' : List AV} {r : AV} (h : Pure P f a' r) (k : leL a a') : Pure P f a r := fun Φ w xs h1 h2 => h Φ w xs h1 (k _ _ _ _ h2)
theorem Pure.res {P : Program} {f : FuncId} {a : List AV} {r r' : AV} (h : Pure P f a r) (k : r.le r') : Pure P f a r' := fun Φ w xs h1 h2 => (h Φ w xs h1 h2).mono fun _ _ ⟨x, Φ', e1, e2, e3⟩ => ⟨x, Φ', e1, k _ _ _ _ e2, e3⟩

section
variable {C : Ctx} {c : Code} {Q : Exit → St → Prop} {T : AT} {H : AH} {nx : Nat} {df : List Nat} {ops : Array Oper} {i : Nat} {K : St → Prop}
theorem Gh_weakT {j : Nat} {v v' : AV} (hj : lk T j = some v) (h : v.le v') : Gh C ⟨T, H, nx, df⟩ ⟨(j, v') :: T, H, nx, df⟩ := fun ρ Φ a w hc =>
  ⟨ρ, Φ, hc.dom, ⟨hc.tm.size, fun k u hk => by
    rw [lk_cons] at hk
    split at hk
    · rename_i e; subst e; cases hk
      obtain ⟨x, h1, h2⟩ := hc.tm.at_ j v hj
      exact ⟨x, h _ _ _ _ h1, h2⟩
    · exact hc.tm.at_ k u hk⟩, hc.mem, hc.df, hc.fz, hc.base, hc.kn, hc.dk⟩
theorem Gh_weakH {b : Nat} {cs cs' : List AV} {t : TypeId} (hb : gt H b = some (.cells cs t)) (h : leL cs cs') : Gh C ⟨T, H, nx, df⟩ ⟨T, (b, some (.cells cs' t)) :: H, nx, df⟩ := fun ρ Φ a w hc =>
  ⟨ρ, Φ, hc.dom, hc.tm, by
    have live : ∀ m, gt ((b, some (ABlk.cells cs' t)) :: H) m ≠ none → gt H m ≠ none := fun m hm => by
      rw [gt_cons] at hm
      by_cases e : b = m
      · subst e; rw [hb]; simp
      · rwa [if_neg e] at hm
    refine ⟨fun m k hm => ?_, fun m m' x x' h1 h2 => hc.mem.inj m m' x x' (live m h1) (live m' h2), fun m x h1 => hc.mem.free m x (live m h1), fun m x h1 => hc.mem.own m x (live m h1), hc.mem.frz, hc.mem.keep⟩
    rw [gt_cons] at hm
    by_cases e : b = m
    · subst e; rw [if_pos rfl] at hm; cases hm
      obtain ⟨x, o, h1, h2, pre, xs, rest, h3, h4⟩ := hc.mem.at_ b _ hb
      exact ⟨x, o, h1, h2, pre, xs, rest, h _ _ _ _ h3, h4⟩
    · rw [if_neg e] at hm; exact hc.mem.at_ m k hm, hc.df, hc.fz, hc.base, hc.kn, hc.dk⟩
theorem WweakT {j : Nat} {v v' : AV} (hj : lk T j = some v) (h : v.le v') (k : WpA C c Q ⟨(j, v') :: T, H, nx, df⟩) : WpA C c Q ⟨T, H, nx, df⟩ := W_gh (Gh_weakT hj h) k
theorem WweakH {b : Nat} {cs cs' : List AV} {t : TypeId} (hb : gt H b = some (.cells cs t)) (h : leL cs cs') (k : WpA C c Q ⟨T, (b, some (.cells cs' t)) :: H, nx, df⟩) : WpA C c Q ⟨T, H, nx, df⟩ := W_gh (Gh_weakH hb h) k
/-- Both outcomes of a test that is known by its place. -/
theorem Rsplit {t : Nat} {b : Bool} (_h : lk T t = some (.bool b)) (ht : b = true → Reg C ops i K ⟨T, H, nx, df⟩) (hf : b = false → Reg C ops i K ⟨T, H, nx, df⟩) : Reg C ops i K ⟨T, H, nx, df⟩ := by cases b; exact hf rfl; exact ht rfl
theorem Dsplit {kl : Oper → Nat} {ops : List Oper} {ms : List Nat} {H0 : AH} {K : AT → AH → Nat → Prop} {i : Nat} {D : List (Nat × AH)} {t : Nat} {b : Bool} (_h : lk T t = some (.bool b)) (ht : b = true → Dr C kl ops ms H0 K i T D nx) (hf : b = false → Dr C kl ops ms H0 K i T D nx) : Dr C kl ops ms H0 K i T D nx := by cases b; exact hf rfl; exact ht rfl
/-- What comes behind a part, once for all ways through it. -/
theorem Wjoin (sj : St) (h : WpA C c (fun e s => e = .normal ∧ Gh C s sj) ⟨T, H, nx, df⟩) (k : Q .normal sj) : WpA C c Q ⟨T, H, nx, df⟩ := fun ρ Φ a w hc =>
  wpIn_mono (h ρ Φ a w hc) fun e a' w' ⟨s', ρ', Φ', ⟨he, hg⟩, hc'⟩ => by
    subst he
    obtain ⟨ρ2, Φ2, h2⟩ := hg ρ' Φ' a' w' hc'
    exact ⟨sj, ρ2, Φ2, k, h2⟩
theorem joined {T' : AT} {H' : AH} (hT : subT T' T) (hH : subH H' H) : (Exit.normal = .normal ∧ Gh C ⟨T, H, nx, df⟩ ⟨T', H', nx, df⟩) := ⟨rfl, Gh_less (s := ⟨T, H, nx, df⟩) hT hH⟩
theorem Rfr {cs : List AV} {t : TypeId} {T' : AT} {H' : AH} (b : Nat) (hg : gt H b = some (.cells cs t)) (hd : dataL cs) (hT : subT T' (frT b cs T)) (hH : subH H' ((b, none) :: frH b cs H)) (k : Reg C ops i K ⟨T', H', nx, df⟩) : Reg C ops i K ⟨T, H, nx, df⟩ :=
  Reg_gh (Gh_fr (s := ⟨T, H, nx, df⟩) hg hd hT hH) k
theorem Rless {T' : AT} {H' : AH} (hT : subT T' T) (hH : subH H' H) (k : Reg C ops i K ⟨T', H', nx, df⟩) : Reg C ops i K ⟨T, H, nx, df⟩ := Reg_gh (Gh_less (s := ⟨T, H, nx, df⟩) hT hH) k
/-- A block that is turned no more; what is known else is as it was. -/
theorem Wfr0 {cs : List AV} {t : TypeId} (b : Nat) (hg : gt H b = some (.cells cs t)) (hd : dataL cs) (k : WpA C c Q ⟨frT b cs T, (b, none) :: frH b cs H, nx, df⟩) : WpA C c Q ⟨T, H, nx, df⟩ :=
  W_gh (fun ρ Φ a w h => by
    obtain ⟨x, o, h1, h2, pre, xs, rest, h3, h4, h5, h6⟩ := h.mem.at_ b _ hg
    have hm := h.mem.freeze h1 (by rw [hg]; simp)
    have hle : Fz.le Φ (fun r => Φ r ∨ r = x.1) := fun _ hr => .inl hr
    have hxs := h3.mono ρ.le_refl hle (fun _ _ => rfl)
    have hat : At w x.1 x.2.1 xs := h4 ▸ at_of_cells (h6 ▸ h2)
    have htm := (h.tm.mono ρ.le_refl hle (fun _ _ => rfl)).fr h1 (.inr rfl) hxs hat hd
    have hm2 : Mem C.Wr C.w0 ρ (fun r => Φ r ∨ r = x.1) (gt ((b, none) :: frH b cs H)) w := by
      have hn : ∀ c, gt ((b, none) :: frH b cs H) c ≠ none → upG (gt H) b none c ≠ none := fun c hc => by
        rw [gt_upG] at hc; unfold upG at hc ⊢
        split at hc
        · exact absurd rfl hc
        · rename_i e; rw [if_neg e]; rw [frH_gt] at hc; intro e2; rw [e2] at hc; exact hc rfl
      refine ⟨fun c k hc => ?_, fun c c' y y' e1 e2 => hm.inj c c' y y' (hn c e1) (hn c' e2), fun c y e1 => hm.free c y (hn c e1), fun c y e1 => hm.own c y (hn c e1), hm.frz, hm.keep⟩
      rw [gt_upG] at hc; unfold upG at hc
      split at hc
      · cases hc
      · rename_i e
        rw [frH_gt] at hc
        cases e2 : gt H c with
        | none => rw [e2] at hc; cases hc
        | some k' =>
          rw [e2] at hc; cases hc
          obtain ⟨y, ob, e3, e4, e5⟩ := hm.at_ c k' (by unfold upG; rw [if_neg e]; exact e2)
          exact ⟨y, ob, e3, e4, e5.fr h1 (.inr rfl) hxs hat hd⟩
    exact ⟨ρ, _, h.dom, htm, hm2, h.df.mono (h.mem.dkFreeze hg h1), ⟨fun r hr => hr.elim (h.fz.1 r) (fun e => e ▸ .inr (h.mem.own b x (by rw [hg]; simp) h1).symm), Fz.le_trans h.fz.2 hle⟩, h.base, h.kn, h.dk.trans (h.mem.dkFreeze hg h1)⟩) k
end
end Go.AE
end

section
/- Abstract states, nineteenth part: small helps. -/
namespace Go.AE
open Go.RowKit
def allLive : Nat → AH → Bool
  | 0, _ => true
  | k + 1, H => (gt H k).isSome && allLive k H
theorem allLive_of : ∀ {k : Nat} {H : AH}, allLive k H = true → ∀ b, b < k → gt H b ≠ none
  | 0, _, _, b, hb => by omega
  | k + 1, H, h, b, hb => by
    have h' : (gt H k).isSome = true ∧ allLive k H = true := by simpa only [allLive, Bool.and_eq_true] using h
    by_cases e : b = k
    · subst e; intro e; rw [e] at h'; simp at h'
    · exact allLive_of h'.2 b (by omega)
section
variable {C : Ctx} {c : Code} {Q : Exit → St → Prop} {T T' : AT} {H H' : AH} {nx nx' : Nat} {df : List Nat} {ops : Array Oper} {i : Nat} {K : St → Prop}
theorem jumpQ_none {s : St} (h : Q .normal s) : jumpQ C Q s none := h
theorem jumpQ_some {s : St} {j : Code} (h : WpA C j Q s) : jumpQ C Q s (some j) := h
theorem joinedS (hT : subT T' T) (hH : subH H' H) (bT : belbT nx' T' = true) (bH : belbH nx' H' = true) (bd : ∀ b ∈ df, b < nx') (hk : C.k0.ble nx' = true) : (Exit.normal = .normal ∧ Gh C ⟨T, H, nx, df⟩ ⟨T', H', nx', df⟩) := ⟨rfl, Gh_shrink (s := ⟨T, H, nx, df⟩) hT hH bT bH bd hk⟩
theorem Rshrink (hT : subT T' T) (hH : subH H' H) (bT : belbT nx' T' = true) (bH : belbH nx' H' = true) (bd : ∀ b ∈ df, b < nx') (hk : C.k0.ble nx' = true) (k : Reg C ops i K ⟨T', H', nx', df⟩) : Reg C ops i K ⟨T, H, nx, df⟩ :=
  Reg_gh (Gh_shrink (s := ⟨T, H, nx, df⟩) hT hH bT bH bd hk) k
theorem Rren (σ : Nat → Nat) (hT : renSubT σ T' T) (hH : renSubH σ H' H) (bT : belbT nx' T' = true) (bH : belbH nx' H' = true) (hi : injH σ H' = true) (hdf : df.map σ = df) (bd : ∀ b ∈ df, b < nx') (hk : C.k0.ble nx' = true) (hb : ∀ b, b < C.k0 → σ b = b) (k : Reg C ops i K ⟨T', H', nx', df⟩) : Reg C ops i K ⟨T, H, nx, df⟩ :=
  Reg_gh (Gh_ren (s := ⟨T, H, nx, df⟩) σ hT hH bT bH hi hdf bd hk hb) k
theorem Rsplit' {P' : Prop} [Decidable P'] (ht : P' → Reg C ops i K ⟨T, H, nx, df⟩) (hf : ¬ P' → Reg C ops i K ⟨T, H, nx, df⟩) : Reg C ops i K ⟨T, H, nx, df⟩ := by
  by_cases h : P'
  · exact ht h
  · exact hf h
/-- A pointer list's numbers, looked up in a list. -/
def mapN (l : List Nat) (m : Nat) : Nat := (nth l m).getD m
theorem retM {rs : List ResultVar} {vs : List AV} {res : AV} {H1 : AH} {n1 : Nat} {C : Ctx} (hH : subH H1 H) (bH : belbH n1 H1 = true) (hT : subT T' T) (bT : belbT n1 T' = true) (hk : C.k0.ble n1 = true) (h : ResL C.P ⟨T', H1, n1, []⟩ rs vs) (he : packA vs = res) : retMQ C rs res H1 n1 .ret ⟨T, H, nx, []⟩ :=
  ⟨T', vs, Gh_shrink (s := ⟨T, H, nx, []⟩) hT hH bT bH (by simp) hk, h, he⟩
theorem retMn {rs : List ResultVar} {vs : List AV} {res : AV} {H1 : AH} {n1 : Nat} {C : Ctx} (hH : subH H1 H) (bH : belbH n1 H1 = true) (hT : subT T' T) (bT : belbT n1 T' = true) (hk : C.k0.ble n1 = true) (h : ResL C.P ⟨T', H1, n1, []⟩ rs vs) (he : packA vs = res) : retMQ C rs res H1 n1 .normal ⟨T, H, nx, []⟩ :=
  ⟨T', vs, Gh_shrink (s := ⟨T, H, nx, []⟩) hT hH bT bH (by simp) hk, h, he⟩
end
end Go.AE
end

section
/- Abstract states, twentieth part: lists that grow from nothing. -/
namespace Go.AE
open Go.RowKit
/-- A list that has grown so far: nothing at first, then a slice of one's own block. -/
def outV (b z : Nat) : Nat → AV
  | 0 => .nils
  | n + 1 => .sliceo b 0 (n + 1) z
def outB (cs : List AV) (t : TypeId) : Nat → Option ABlk
  | 0 => none
  | _ + 1 => some (.cells cs t)
/-- .. with no more room than it shows. -/
def outF (b : Nat) : Nat → AV
  | 0 => .nils
  | n + 1 => .slice b 0 (n + 1) (n + 1)
theorem len_outV {b z : Nat} : ∀ {n : Nat} (ρ : Env) Φ w y, Con ρ Φ w (outV b z n) y → ∃ a k, y = .slice a n k
  | 0, ρ, Φ, w, y, h => len_nils ρ Φ w y h
  | _ + 1, ρ, Φ, w, y, h => len_sliceo ρ Φ w y h
section ops
variable {C : Ctx} {T : AT} {H : AH} {nx : Nat} {d : Option Tmp} {ty : TypeId} {pos : String} {after : Array Edge} {g : Option (Nat × Bool)}
theorem OpU.drop {o : Oper} {v : AV} {b : Nat} {k : Option ABlk} (h : OpU C o T H nx v [(nx, k)] (nx + 1)) : OpU C o T H nx v [(nx, k), (b, none)] (nx + 1) := fun ρ Φ a w h1 h2 h3 K Q kk =>
  h ρ Φ a w h1 h2 h3 K Q fun ρ' Φ' x w' hp hx => kk ρ' Φ' x w' ((Post.less hp (by
    intro m q hm
    simp only [List.cons_append, List.nil_append, gt_cons] at hm ⊢
    split
    · rename_i e; rw [if_pos e] at hm; exact hm
    · rename_i e; rw [if_neg e] at hm
      split at hm
      · cases hm
      · exact hm)).more (by simp)) hx
/-- append to a list that grows. -/
theorem U_appendOut {sT xT e e' z n m b : Nat} {x y : Operand} {v : AV} {cs cs' news : List AV} [hT : TySl C.P sT e z] [hX : TySl C.P xT e' z] [hE : TyElem C.P e z] (hx : ev T x = some (outV b z n)) (hy : ev T y = some v) (hg : gt H b = outB cs e n) (hl : cs.length = n * z) (h2 : srcS z H v = some (news, m + 1))
    (h1 : news.all AV.one = true) (hlim : n + (m + 1) ≤ 1000000) (hc : cs ++ news = cs') :
    OpU C ⟨d, .call ⟨.builtin .append, #[x, y], #[sT, xT]⟩, ty, pos, after, g⟩ T H nx (outV nx z (n + (m + 1))) [(nx, outB cs' e (n + (m + 1))), (b, none)] (nx + 1) := by
  cases n with
  | zero =>
    have hcs : cs = [] := List.length_eq_zero_iff.1 (by omega)
    subst hcs
    have h := U_appendGrow (C := C) (T := T) (H := H) (nx := nx) (d := d) (ty := ty) (pos := pos) (after := after) (g := g) (sT := sT) (xT := xT) (c := 0) (s := .nils) (olds := []) (n := 0) hx hy rfl h2 rfl (by omega) hlim
    rw [Nat.zero_add] at h ⊢
    simp only [List.nil_append] at h hc
    subst hc
    exact OpU.drop h
  | succ n =>
    exact U_appendOpen (n := n + 1) (m := m + 1) (o := 0) hx hy hg (by omega) h2 h1 hlim (by rw [List.drop_zero]; exact hc)
/-- .. to one that is still nothing. -/
theorem U_appendOut0 {sT xT e e' z m b : Nat} {x y : Operand} {v : AV} {cs cs' news : List AV} [hT : TySl C.P sT e z] [hX : TySl C.P xT e' z] [hE : TyElem C.P e z] (hx : ev T x = some (outV b z 0)) (hy : ev T y = some v) (hl : cs.length = 0) (h2 : srcS z H v = some (news, m + 1))
    (hlim : m + 1 ≤ 1000000) (hc : cs ++ news = cs') :
    OpU C ⟨d, .call ⟨.builtin .append, #[x, y], #[sT, xT]⟩, ty, pos, after, g⟩ T H nx (outV nx z (0 + (m + 1))) [(nx, outB cs' e (0 + (m + 1)))] (nx + 1) := by
  have hcs : cs = [] := List.length_eq_zero_iff.1 hl
  subst hcs
  have h := U_appendGrow (C := C) (T := T) (H := H) (nx := nx) (d := d) (ty := ty) (pos := pos) (after := after) (g := g) (sT := sT) (xT := xT) (c := 0) (s := .nils) (olds := []) (n := 0) hx hy rfl h2 rfl (by omega) (by omega)
  rw [Nat.zero_add] at h ⊢
  simp only [List.nil_append] at h hc
  subst hc
  exact h
theorem U_sliceOut3 {t e z b n : Nat} {x hi mx : Operand} [hT : TySl C.P t e z] (hx : ev T x = some (outV b z n)) (hhi : bnd T 0 (some hi) = some (n : Int)) (hmx : bnd T 0 (some mx) = some (n : Int)) :
    OpU C ⟨d, .slice t x none (some hi) (some mx), ty, pos, after, g⟩ T H nx (outF b n) [] nx := by
  cases n with
  | zero => exact U_sliceN3 hx hhi hmx
  | succ n => exact U_sliceSo3 hx hhi hmx (Nat.le_refl _)
/-- append to a list without room. -/
theorem U_appendOutF {sT xT e e' z n m b : Nat} {x y : Operand} {v : AV} {cs cs' news : List AV} [hT : TySl C.P sT e z] [hX : TySl C.P xT e' z] [hE : TyElem C.P e z] (hx : ev T x = some (outF b n)) (hy : ev T y = some v) (hg : gt H b = outB cs e n) (hl : cs.length = n * z) (h2 : srcS z H v = some (news, m + 1))
    (hlim : n + (m + 1) ≤ 1000000) (hc : cs ++ news = cs') :
    OpU C ⟨d, .call ⟨.builtin .append, #[x, y], #[sT, xT]⟩, ty, pos, after, g⟩ T H nx (outV nx z (n + (m + 1))) [(nx, outB cs' e (n + (m + 1)))] (nx + 1) := by
  cases n with
  | zero =>
    have hcs : cs = [] := List.length_eq_zero_iff.1 (by omega)
    subst hcs
    have h := U_appendGrow (C := C) (T := T) (H := H) (nx := nx) (d := d) (ty := ty) (pos := pos) (after := after) (g := g) (sT := sT) (xT := xT) (c := 0) (s := .nils) (olds := []) (n := 0) hx hy rfl h2 rfl (by omega) hlim
    rw [Nat.zero_add] at h ⊢
    simp only [List.nil_append] at h hc
    subst hc
    exact h
  | succ n =>
    have hs : srcS z H (.slice b 0 (n + 1) (n + 1)) = some (cs, n + 1) := by
      have hg' : gt H b = some (.cells cs e) := hg
      simp only [srcS, hg', hl, Nat.zero_add, Nat.le_refl, if_true, List.drop_zero]
      rw [List.take_of_length_le (by omega)]
    have h := U_appendGrow (C := C) (T := T) (H := H) (nx := nx) (d := d) (ty := ty) (pos := pos) (after := after) (g := g) (sT := sT) (xT := xT) (c := n + 1) (s := .slice b 0 (n + 1) (n + 1)) (olds := cs) (n := n + 1) hx hy hs h2 rfl (by omega) hlim
    subst hc
    exact h
theorem U_indexOut {t : TypeId} {x i : Operand} {k : IntKind} {b n e z j : Nat} {m : Int} [hT : TySl C.P t e z] (hx : ev T x = some (outV b z n)) (hi : ev T i = some (.int k m)) (hj : m = j) (hlt : j < n) :
    OpU C ⟨d, .indexAddr t x i, ty, pos, after, g⟩ T H nx (.ptr b (0 + j * z)) [] nx := by
  cases n with
  | zero => omega
  | succ n => exact U_indexSo hx hi hj hlt
end ops
mutual
theorem ren_data {σ : Nat → Nat} : ∀ (v : AV), v.data → v.ren σ = v
  | .bool _, _ | .int _ _, _ | .str _, _ | .nilp, _ | .nils, _ | .nilm, _ | .nilf, _ | .nili, _ | .rop _ _, _ | .ros _ _ _, _ | .rom _, _ => rfl
  | .ptr _ _, d | .slice _ _ _ _, d | .sliceo _ _ _ _, d | .out _ _ _, d | .mapl _, d | .yld _, d => by cases d
  | .agg cs, d => by
    have d' : isdL cs = true := by simpa [AV.data, AV.isd] using d
    simp only [AV.ren, renL_data cs d']
  | .tup cs, d => by
    have d' : isdL cs = true := by simpa [AV.data, AV.isd] using d
    simp only [AV.ren, renL_data cs d']
  | .fn f a b, d => by
    have d' : isdL a = true ∧ isdL b = true := by simpa [AV.data, AV.isd] using d
    simp only [AV.ren, renL_data a d'.1, renL_data b d'.2]
theorem renL_data {σ : Nat → Nat} : ∀ (l : List AV), dataL l → renL σ l = l
  | [], _ => rfl
  | v :: l, d => by
    have d' := dataL_cons.1 d
    simp only [renL, ren_data v d'.1, renL_data l d'.2]
end
mutual
theorem belb_data {n : Nat} : ∀ (v : AV), v.data → v.belb n = true
  | .bool _, _ | .int _ _, _ | .str _, _ | .nilp, _ | .nils, _ | .nilm, _ | .nilf, _ | .nili, _ | .rop _ _, _ | .ros _ _ _, _ | .rom _, _ => rfl
  | .ptr _ _, d | .slice _ _ _ _, d | .sliceo _ _ _ _, d | .out _ _ _, d | .mapl _, d | .yld _, d => by cases d
  | .agg cs, d => by
    have d' : isdL cs = true := by simpa [AV.data, AV.isd] using d
    simp only [AV.belb, belbL_data cs d']
  | .tup cs, d => by
    have d' : isdL cs = true := by simpa [AV.data, AV.isd] using d
    simp only [AV.belb, belbL_data cs d']
  | .fn f a b, d => by
    have d' : isdL a = true ∧ isdL b = true := by simpa [AV.data, AV.isd] using d
    simp only [AV.belb, belbL_data a d'.1, belbL_data b d'.2, Bool.and_self]
theorem belbL_data {n : Nat} : ∀ (l : List AV), dataL l → belbL n l = true
  | [], _ => rfl
  | v :: l, d => by
    have d' := dataL_cons.1 d
    simp only [belbL, belb_data v d'.1, belbL_data l d'.2, Bool.and_self]
end
theorem renSub_cells {σ : Nat → Nat} {b : Nat} {cs : List AV} {t : TypeId} {l H : AH} (hd : dataL cs) (h : gt H (σ b) = some (.cells cs t)) (h2 : renSubH σ l H) : renSubH σ ((b, some (.cells cs t)) :: l) H :=
  ⟨by rw [h]; simp only [ABlk.ren, renL_data cs hd], h2⟩
theorem renSub_out {σ : Nat → Nat} {b k : Nat} {cs : List AV} {t : TypeId} {l H : AH} (hd : dataL cs) (h : gt H (σ b) = outB cs t k) (h2 : renSubH σ l H) : renSubH σ ((b, outB cs t k) :: l) H := by
  cases k with
  | zero => exact h2
  | succ k => exact renSub_cells hd h h2
theorem belb_cells {n b : Nat} {cs : List AV} {t : TypeId} {H : AH} (hd : dataL cs) (hb : b.blt n = true) (h : belbH n H = true) : belbH n ((b, some (.cells cs t)) :: H) = true := by
  simp only [belbH, ABlk.belb, hb, belbL_data cs hd, h, Bool.and_self]
theorem belb_out {n b k : Nat} {cs : List AV} {t : TypeId} {H : AH} (hd : dataL cs) (hb : b.blt n = true) (h : belbH n H = true) : belbH n ((b, outB cs t k) :: H) = true := by
  cases k with
  | zero => exact h
  | succ k => exact belb_cells hd hb h
/-- The list that has grown is turned no more: what shows it in another block's cells. -/
theorem Gh_outH {C : Ctx} {T T' : AT} {H H' : AH} {nx : Nat} {df : List Nat} {b z n b2 : Nat} {cs pre post : List AV} {t t2 : TypeId} (hg : gt H b = outB cs t n) (hd : dataL cs) (hg2 : gt H b2 = some (.cells (pre ++ outV b z n :: post) t2)) (hb : b2 ≠ b) (hp : ∀ b cs, frL b cs pre = pre) (hq : ∀ b cs, frL b cs post = post)
    (hT : subT T' T) (hT2 : ∀ cs, subT T' (frT b cs T)) (hH : ∀ m q, gt H' m = some q → m ≠ b2 → False) (hH2 : gt H' b2 = some (.cells (pre ++ .ros cs n none :: post) t2)) : Gh C ⟨T, H, nx, df⟩ ⟨T', H', nx, df⟩ := by
  have app : ∀ b cs (l m : List AV), frL b cs (l ++ m) = frL b cs l ++ frL b cs m := by
    intro b cs l m
    induction l with
    | nil => rfl
    | cons v l ih => simp only [List.cons_append, frL, ih]
  have gl : ∀ H2 : AH, gt H2 b2 = some (.cells (pre ++ .ros cs n none :: post) t2) → ∀ m q, gt H' m = some q → gt H2 m = some q := fun H2 h m q hm => by
    by_cases e : m = b2
    · subst e; rw [hH2] at hm; cases hm; exact h
    · exact (hH m q hm e).elim
  cases n with
  | zero =>
    refine (Gh_weakH (b := b2) hg2 (cs' := pre ++ .ros cs 0 none :: post) ?_).trans ?_
    · intro ρ Φ w x hx
      have : ∀ (pre : List AV) (x : List Value), ConL ρ Φ w (pre ++ AV.nils :: post) x → ConL ρ Φ w (pre ++ .ros cs 0 none :: post) x := by
        intro pre
        induction pre with
        | nil => intro x hx; obtain ⟨y, ys, rfl, h1, h2⟩ := conL_inv hx; exact conL_cons (le_nils _ _ _ _ h1) h2
        | cons v pre ih => intro x hx; obtain ⟨y, ys, rfl, h1, h2⟩ := conL_inv hx; exact conL_cons h1 (ih ys h2)
      exact this pre x hx
    · exact fun ρ Φ a w h => ⟨ρ, Φ, h.dom, ⟨h.tm.size, fun i v hi => h.tm.at_ i v (subT_lk hT i v hi)⟩, h.mem.less (gl _ (by rw [gt_cons, if_pos rfl])), h.df, h.fz, h.base, h.kn, h.dk⟩
  | succ n =>
    have hg' : gt H b = some (.cells cs t) := hg
    intro ρ Φ a w h
    obtain ⟨ρ', Φ', h'⟩ := Gh_fr (C := C) (s := ⟨T, H, nx, df⟩) (T' := T') (H' := [(b2, some (.cells (pre ++ .ros cs (n + 1) none :: post) t2))]) hg' hd (hT2 cs) ⟨by
      rw [gt_cons, if_neg (fun e => hb e.symm), frH_gt, hg2]
      have e : (outV b z (n + 1)).fr b cs = .ros cs (n + 1) none := by
        show (if b.beq b then AV.ros (cs.drop 0) (n + 1) none else _) = _
        rw [if_pos (by simp)]; rfl
      simp only [Option.map_some, ABlk.fr, app, frL, hp, hq, e], trivial⟩ ρ Φ a w h
    exact ⟨ρ', Φ', h'.dom, h'.tm, h'.mem.less (gl _ (by rw [gt_cons, if_pos rfl])), h'.df, h'.fz, h'.base, h'.kn, h'.dk⟩
end Go.AE
end
