import Derived.Test.YthoodfiacfmhgaaM3
import Derived.Handed
import Derived.ProofKit
import Derived.OpenShut
import Derived.Carry
import Derived.JoinedOf
import Derived.Test.YthoodfiacfmhgaaProg
set_option linter.all false
section
/- Abstract states, thirtieth part: maps by their keys and values, and ranges over them. -/
namespace Go.AE
open Go.RowKit

/-! ### Maps by keys and values -/
section
variable {K V : Type}
/-- The entries of a map. -/
def mE (ek : K → AV) (ev : V → AV) (L : List (K × V × Nat)) : List (AV × AV × Nat) := L.map fun e => (ek e.1, ev e.2.1, e.2.2)
theorem mE_data {ek : K → AV} {ev : V → AV} (h1 : ∀ k, (ek k).data) (h2 : ∀ v, (ev v).data) : ∀ (L : List (K × V × Nat)), dataE (mE ek ev L)
  | [] => rfl
  | e :: L => dataE_cons.2 ⟨h1 _, h2 _, mE_data h1 h2 L⟩
theorem mE_append {ek : K → AV} {ev : V → AV} (a b : List (K × V × Nat)) : mE ek ev (a ++ b) = mE ek ev a ++ mE ek ev b := by simp [mE]
theorem mE_get {ek : K → AV} {ev : V → AV} {L : List (K × V × Nat)} {i : Nat} {e : K × V × Nat} (h : L[i]? = some e) : (mE ek ev L)[i]? = some (ek e.1, ev e.2.1, e.2.2) := by simp [mE, h]
theorem mE_set {ek : K → AV} {ev : V → AV} (L : List (K × V × Nat)) (i : Nat) (e : K × V × Nat) : mE ek ev (L.set i e) = (mE ek ev L).set i (ek e.1, ev e.2.1, e.2.2) := by simp [mE, List.map_set]
theorem mE_erase {ek : K → AV} {ev : V → AV} : ∀ (L : List (K × V × Nat)) (i : Nat), mE ek ev (L.eraseIdx i) = (mE ek ev L).eraseIdx i
  | [], i => by simp [mE]
  | e :: L, 0 => by simp [mE]
  | e :: L, i + 1 => by
    have := mE_erase (ek := ek) (ev := ev) L i
    simp only [mE] at this ⊢
    simp [this]
variable [DecidableEq K]
/-- What a map has at a key. -/
def mget : List (K × V × Nat) → K → Option V
  | [], _ => none
  | e :: l, k => if e.1 = k then some e.2.1 else mget l k
/-- A map with a value at a key. -/
def mput (ck : Nat) : List (K × V × Nat) → K → V → List (K × V × Nat)
  | [], k, v => [(k, v, ck)]
  | e :: l, k, v => if e.1 = k then (k, v, e.2.2) :: l else e :: mput ck l k v
/-- .. its clock. -/
def mck (ck : Nat) (l : List (K × V × Nat)) (k : K) : Nat := if (mget l k).isSome then ck else ck + 1
/-- A map without a key. -/
def mdel : List (K × V × Nat) → K → List (K × V × Nat)
  | [], _ => []
  | e :: l, k => if e.1 = k then l else e :: mdel l k
theorem find_none {ek : K → AV} {ev : V → AV} (hi : ∀ a b, ek a = ek b → a = b) {k : K} : ∀ {L : List (K × V × Nat)}, mget L k = none → FindK (ek k) (mE ek ev L) none ∧ (∀ ck v, mput ck L k v = L ++ [(k, v, ck)]) ∧ mdel L k = L
  | [], _ => ⟨.nil, fun _ _ => rfl, rfl⟩
  | e :: L, h => by
    unfold mget at h
    split at h
    · cases h
    · rename_i hne
      obtain ⟨h1, h2, h3⟩ := find_none (ek := ek) (ev := ev) hi h
      refine ⟨.miss0 (fun e => hne (hi _ _ e)) h1, fun ck v => ?_, ?_⟩
      · rw [mput, if_neg hne, h2]; rfl
      · rw [mdel, if_neg hne, h3]
theorem find_some {ek : K → AV} {ev : V → AV} (hi : ∀ a b, ek a = ek b → a = b) {k : K} {u : V} : ∀ {L : List (K × V × Nat)}, mget L k = some u →
    ∃ i n, L[i]? = some (k, u, n) ∧ FindK (ek k) (mE ek ev L) (some (i, ev u)) ∧ (∀ ck v, mput ck L k v = L.set i (k, v, n)) ∧ mdel L k = L.eraseIdx i
  | [], h => by cases h
  | e :: L, h => by
    unfold mget at h
    split at h
    · rename_i he
      cases h
      obtain ⟨a, b, n⟩ := e
      simp only at he; subst he
      exact ⟨0, n, rfl, .hit _ _ _, fun ck v => by simp [mput], by simp [mdel]⟩
    · rename_i hne
      obtain ⟨i, n, h1, h2, h3, h4⟩ := find_some (ek := ek) (ev := ev) hi h
      refine ⟨i + 1, n, by simpa using h1, .miss (fun e => hne (hi _ _ e)) h2, fun ck v => ?_, ?_⟩
      · rw [mput, if_neg hne, h3]; rfl
      · rw [mdel, if_neg hne, h4]; rfl
theorem mE_keys {ek : K → AV} {ev : V → AV} {ok : AV → Bool} (h : ∀ k, ok (ek k) = true) : ∀ (L : List (K × V × Nat)), keysOk ok (mE ek ev L) = true
  | [] => rfl
  | e :: L => by simp only [mE, List.map_cons, keysOk, h, Bool.true_and]; exact mE_keys h L

/-- A map in order: stamps lie below its clock, each is there once, and so is each key. -/
structure MOk (ck : Nat) (L : List (K × V × Nat)) : Prop where
  lt : ∀ e ∈ L, e.2.2 < ck
  st : (L.map (·.2.2)).Nodup
  ky : (L.map (·.1)).Nodup
theorem MOk.nil {ck : Nat} : MOk ck ([] : List (K × V × Nat)) := ⟨fun _ h => by simp at h, by simp, by simp⟩
theorem mget_none : ∀ {L : List (K × V × Nat)} {k : K}, mget L k = none ↔ k ∉ L.map (·.1)
  | [], k => by simp [mget]
  | e :: L, k => by
    unfold mget
    split
    · rename_i h; simp [h]
    · rename_i h
      rw [mget_none (L := L)]
      simp only [List.map_cons, List.mem_cons, not_or]
      exact ⟨fun h2 => ⟨fun e => h e.symm, h2⟩, fun h2 => h2.2⟩
theorem mget_mem {L : List (K × V × Nat)} (h : (L.map (·.1)).Nodup) {k : K} {v : V} : mget L k = some v ↔ ∃ n, (k, v, n) ∈ L := by
  induction L with
  | nil => simp [mget]
  | cons e L ih =>
    obtain ⟨a, b, n⟩ := e
    simp only [List.map_cons, List.nodup_cons] at h
    unfold mget
    split
    · rename_i hk
      simp only at hk; subst hk
      constructor
      · rintro ⟨rfl⟩; exact ⟨n, by simp⟩
      · rintro ⟨m, hm⟩
        rcases List.mem_cons.1 hm with e | hm
        · cases e; rfl
        · exact absurd (List.mem_map.2 ⟨_, hm, rfl⟩) h.1
    · rename_i hk
      rw [ih h.2]
      constructor
      · rintro ⟨m, hm⟩; exact ⟨m, List.mem_cons_of_mem _ hm⟩
      · rintro ⟨m, hm⟩
        rcases List.mem_cons.1 hm with e | hm
        · cases e; exact absurd rfl hk
        · exact ⟨m, hm⟩
theorem mput_none {k : K} : ∀ {L : List (K × V × Nat)}, mget L k = none → ∀ ck v, mput ck L k v = L ++ [(k, v, ck)]
  | [], _ => fun _ _ => rfl
  | e :: L, h => by
    unfold mget at h
    split at h
    · cases h
    · rename_i hne
      intro ck v; rw [mput, if_neg hne, mput_none h]; rfl
theorem mput_some {k : K} {u : V} : ∀ {L : List (K × V × Nat)}, mget L k = some u → ∃ i n, L[i]? = some (k, u, n) ∧ ∀ ck v, mput ck L k v = L.set i (k, v, n)
  | [], h => by cases h
  | e :: L, h => by
    unfold mget at h
    split at h
    · rename_i he
      cases h
      obtain ⟨a, b, n⟩ := e
      simp only at he; subst he
      exact ⟨0, n, rfl, fun ck v => by simp [mput]⟩
    · rename_i hne
      obtain ⟨i, n, h1, h3⟩ := mput_some h
      exact ⟨i + 1, n, by simpa using h1, fun ck v => by rw [mput, if_neg hne, h3]; rfl⟩
theorem set_same {α : Type} {l : List α} {i : Nat} {a : α} (h : l[i]? = some a) : l.set i a = l := by
  apply List.ext_getElem?
  intro j
  rw [List.getElem?_set]
  split
  · rename_i e; subst e
    split
    · exact h.symm
    · rename_i hh; rw [List.getElem?_eq_none (by omega)]
  · rfl
theorem MOk.put {ck : Nat} {L : List (K × V × Nat)} (h : MOk ck L) (k : K) (v : V) : MOk (mck ck L k) (mput ck L k v) := by
  cases e : mget L k with
  | none =>
    rw [mck, e, mput_none e]
    refine ⟨fun x hx => ?_, ?_, ?_⟩
    · rcases List.mem_append.1 hx with hx | hx
      · have := h.lt x hx; simp; omega
      · simp at hx; subst hx; simp
    · rw [List.map_append, List.nodup_append]
      refine ⟨h.st, by simp, fun a ha b hb => ?_⟩
      obtain ⟨x, hx, rfl⟩ := List.mem_map.1 ha
      simp at hb; subst hb
      have := h.lt x hx; omega
    · rw [List.map_append, List.nodup_append]
      refine ⟨h.ky, by simp, fun a ha b hb => ?_⟩
      simp at hb; subst hb
      rintro rfl
      exact mget_none.1 e ha
  | some u =>
    obtain ⟨i, n, h1, h2⟩ := mput_some e
    rw [mck, e, h2]
    refine ⟨fun x hx => ?_, ?_, ?_⟩
    · rcases List.mem_or_eq_of_mem_set hx with hx | rfl
      · exact h.lt x hx
      · exact h.lt (k, u, n) (List.mem_of_getElem? h1)
    · rw [List.map_set, set_same (by simp [h1])]; exact h.st
    · rw [List.map_set, set_same (by simp [h1])]; exact h.ky
theorem MOk.filter {ck : Nat} {L : List (K × V × Nat)} (h : MOk ck L) (p : K × V × Nat → Bool) : MOk ck (L.filter p) :=
  ⟨fun e he => h.lt e (List.mem_filter.1 he).1, h.st.sublist ((List.filter_sublist).map _), h.ky.sublist ((List.filter_sublist).map _)⟩
theorem mdel_filter {L : List (K × V × Nat)} (h : (L.map (·.1)).Nodup) (k : K) : mdel L k = L.filter fun e => !decide (e.1 = k) := by
  induction L with
  | nil => rfl
  | cons e L ih =>
    simp only [List.map_cons, List.nodup_cons] at h
    rw [mdel, List.filter_cons]
    split
    · rename_i hk
      subst hk
      simp only [decide_true, Bool.not_true, Bool.false_eq_true, if_false]
      exact (List.filter_eq_self.2 fun x hx => by simpa using fun hh : x.1 = e.1 => h.1 (hh ▸ List.mem_map.2 ⟨x, hx, rfl⟩)).symm
    · rename_i hk
      simp only [hk, decide_false, Bool.not_false, if_true]
      rw [ih h.2]
theorem MOk.del {ck : Nat} {L : List (K × V × Nat)} (h : MOk ck L) (k : K) : MOk ck (mdel L k) := by rw [mdel_filter h.ky]; exact h.filter _
end

section ops
variable {C : Ctx} {T : AT} {H : AH} {nx : Nat} {d : Option Tmp} {ty : TypeId} {pos : String} {after : Array Edge} {g : Option (Nat × Bool)}
variable {K V : Type} [DecidableEq K] {ek : K → AV} {el : V → AV}
/-- How keys and values are laid down. -/
structure MEnc (P : Program) (t : TypeId) (ek : K → AV) (el : V → AV) (z : V) : Prop where
  inj : ∀ a b, ek a = ek b → a = b
  dk : ∀ k, (ek k).data
  dv : ∀ v, (el v).data
  key : ∃ kt et ok, TyMap P t kt et ∧ TyKey P kt ok ∧ (∀ k, ok (ek k) = true) ∧ ∃ zv, (∀ w, (zeroValue et).run P w = .ok zv w) ∧ ∀ ρ Φ w, Con ρ Φ w (el z) zv
theorem U_lookupM {t : TypeId} {x i : Operand} {b ck : Nat} {k : K} {z : V} {L : List (K × V × Nat)} {v : AV} (hE : MEnc C.P t ek el z) (hx : ev T x = some (.mapl b)) (hi : ev T i = some (ek k)) (hg : gt H b = some (.map (mE ek el L) ck)) (hv : el ((mget L k).getD z) = v) :
    OpU C ⟨d, .lookup t x i false, ty, pos, after, g⟩ T H nx v [] nx := by
  obtain ⟨kt, et, ok, hM, hK, hok, zv, hz, hzc⟩ := hE.key
  cases e : mget L k with
  | some u =>
    obtain ⟨j, n, _, h2, _, _⟩ := find_some (ek := ek) (ev := el) hE.inj e
    rw [e] at hv; simp only [Option.getD_some] at hv; subst hv
    exact U_lookup hx hi hg (hok k) (mE_keys hok L) h2
  | none =>
    rw [e] at hv; simp only [Option.getD_none] at hv; subst hv
    have h1 := (find_none (ek := ek) (ev := el) hE.inj e).1
    exact OpU.of_value (by intro c; simp) fun ρ Φ a w h2 h3 => by
      obtain ⟨y, l, e1, e2, e3, e4⟩ := map_at h3 hg (ev_con h2 hx)
      obtain ⟨r', f1, f2⟩ := hK.find ρ Φ w _ _ _ l _ (hok k) (mE_keys hok L) (ev_con h2 hi) e4 h1
      cases r' with
      | some p => exact f2.elim
      | none =>
        refine ⟨zv, ?_, hzc ρ Φ w⟩
        simp only [execOp, Instr.lookup, Sem.run_bind, run_underlying hM.un, Result.andThen_ok, e2, run_getMap e3, Sem.run_pure, hK.check _ _ _ _ _ _ (hok k) (ev_con h2 hi), f1, Bool.false_eq_true, if_false, hz w]
theorem U_lookupOkM {t : TypeId} {x i : Operand} {b ck : Nat} {k : K} {z : V} {L : List (K × V × Nat)} {v : AV} {c : Bool} (hE : MEnc C.P t ek el z) (hx : ev T x = some (.mapl b)) (hi : ev T i = some (ek k)) (hg : gt H b = some (.map (mE ek el L) ck)) (hv : el ((mget L k).getD z) = v) (hc : (mget L k).isSome = c) :
    OpU C ⟨d, .lookup t x i true, ty, pos, after, g⟩ T H nx (.tup [v, .bool c]) [] nx := by
  obtain ⟨kt, et, ok, hM, hK, hok, zv, hz, hzc⟩ := hE.key
  cases e : mget L k with
  | some u =>
    obtain ⟨j, n, _, h2, _, _⟩ := find_some (ek := ek) (ev := el) hE.inj e
    rw [e] at hv hc; simp only [Option.getD_some] at hv; subst hv; subst hc
    exact U_lookupOk hx hi hg (hok k) (mE_keys hok L) h2
  | none =>
    rw [e] at hv hc; simp only [Option.getD_none] at hv; subst hv; subst hc
    have h1 := (find_none (ek := ek) (ev := el) hE.inj e).1
    exact OpU.of_value (by intro c; simp) fun ρ Φ a w h2 h3 => by
      obtain ⟨y, l, e1, e2, e3, e4⟩ := map_at h3 hg (ev_con h2 hx)
      obtain ⟨r', f1, f2⟩ := hK.find ρ Φ w _ _ _ l _ (hok k) (mE_keys hok L) (ev_con h2 hi) e4 h1
      cases r' with
      | some p => exact f2.elim
      | none =>
        refine ⟨.tuple #[zv, .bool false], ?_, by simp only [Con]; exact ⟨[zv, .bool false], conL_cons (hzc ρ Φ w) (conL_cons mk_bool conL_nil), rfl⟩⟩
        simp only [execOp, Instr.lookup, Sem.run_bind, run_underlying hM.un, Result.andThen_ok, e2, run_getMap e3, Sem.run_pure, hK.check _ _ _ _ _ _ (hok k) (ev_con h2 hi), f1, if_true, hz w]
theorem U_updM {t : TypeId} {x i y : Operand} {b ck : Nat} {k : K} {v z : V} {L : List (K × V × Nat)} (hE : MEnc C.P t ek el z) (hx : ev T x = some (.mapl b)) (hi : ev T i = some (ek k)) (hy : ev T y = some (el v)) (hg : gt H b = some (.map (mE ek el L) ck)) :
    OpU C ⟨d, .mapUpdate t x i y, ty, pos, after, g⟩ T H nx (.tup []) [(b, some (.map (mE ek el (mput ck L k v)) (mck ck L k)))] nx := by
  obtain ⟨kt, et, ok, hM, hK, hok, zv, hz, hzc⟩ := hE.key
  cases e : mget L k with
  | some u =>
    obtain ⟨j, n, h1, h2, h3, _⟩ := find_some (ek := ek) (ev := el) hE.inj e
    have := U_mapUpdateOld (C := C) (t := t) (kt := kt) (et := et) (ok := ok) (d := d) (ty := ty) (pos := pos) (after := after) (g := g) (nx := nx) hx hi hy hg (hok k) (mE_keys hok L) h2 (mE_get h1)
    rw [mck, e, h3, mE_set]; exact this
  | none =>
    obtain ⟨h1, h2, _⟩ := find_none (ek := ek) (ev := el) hE.inj e
    have := U_mapUpdate (C := C) (t := t) (kt := kt) (et := et) (ok := ok) (d := d) (ty := ty) (pos := pos) (after := after) (g := g) (nx := nx) hx hi hy hg (hok k) (mE_keys hok L) h1
    rw [mck, e, h2, mE_append]; exact this
theorem U_insM {t : TypeId} {x i y : Operand} {b ck : Nat} {k : K} {v z : V} {L : List (K × V × Nat)} (hE : MEnc C.P t ek el z) (hx : ev T x = some (.mapl b)) (hi : ev T i = some (ek k)) (hy : ev T y = some (el v)) (hg : gt H b = some (.map (mE ek el L) ck)) (hn : mget L k = none) :
    OpU C ⟨d, .insert t x i y, ty, pos, after, g⟩ T H nx (.tup []) [(b, some (.map (mE ek el (mput ck L k v)) (mck ck L k)))] nx := by
  obtain ⟨kt, et, ok, hM, hK, hok, zv, hz, hzc⟩ := hE.key
  obtain ⟨h1, h2, _⟩ := find_none (ek := ek) (ev := el) hE.inj hn
  have := U_insert (C := C) (t := t) (kt := kt) (et := et) (ok := ok) (d := d) (ty := ty) (pos := pos) (after := after) (g := g) (nx := nx) hx hi hy hg (hok k) (mE_keys hok L) h1
  rw [mck, hn, h2, mE_append]; exact this
theorem U_delM {t tk : TypeId} {x i : Operand} {b ck : Nat} {k : K} {z : V} {L : List (K × V × Nat)} (hE : MEnc C.P t ek el z) (hx : ev T x = some (.mapl b)) (hi : ev T i = some (ek k)) (hg : gt H b = some (.map (mE ek el L) ck)) (hs : (mget L k).isSome = true) :
    OpU C ⟨d, .call ⟨.builtin .delete, #[x, i], #[t, tk]⟩, ty, pos, after, g⟩ T H nx (.tup []) [(b, some (.map (mE ek el (mdel L k)) ck))] nx := by
  obtain ⟨kt, et, ok, hM, hK, hok, zv, hz, hzc⟩ := hE.key
  cases e : mget L k with
  | some u =>
    obtain ⟨j, n, h1, h2, _, h4⟩ := find_some (ek := ek) (ev := el) hE.inj e
    have := U_delete (C := C) (t := t) (kt := kt) (et := et) (ok := ok) (d := d) (ty := ty) (pos := pos) (after := after) (g := g) (nx := nx) (tk := tk) hx hi hg (hok k) (mE_keys hok L) h2
    rw [h4, mE_erase]; exact this
  | none => rw [e] at hs; cases hs
theorem U_lenM {t rt : TypeId} {x : Operand} {b ck : Nat} {L : List (K × V × Nat)} {kt et : TypeId} (hM : C.P.underlying t = some (.map kt et)) (hx : ev T x = some (.mapl b)) (hg : gt H b = some (.map (mE ek el L) ck)) :
    OpU C ⟨d, .call ⟨.builtin .len, #[x], #[t]⟩, rt, pos, after, g⟩ T H nx (.int .i64 (L.length : Nat)) [] nx :=
  OpU.of_value (by intro c; simp) fun ρ Φ a w h2 h3 => by
    obtain ⟨y, l, e1, e2, e3, e4⟩ := map_at h3 hg (ev_con h2 hx)
    have hl := conE_len e4
    refine ⟨goInt l.length, ?_, ?_⟩
    · simp only [execOp, resolve, Sem.run_bind, Sem.run_pure, Result.andThen_ok, invoke, builtin]
      simp [Builtin.len_, run_underlying hM, e2, run_getMap e3]
    · rw [hl]; simp only [mE, List.length_map]; exact mk_int

/-! ### Ranges over maps -/
theorem U_rangeM {t : TypeId} {x : Operand} {b ck : Nat} {es : List (AV × AV × Nat)} {kt et : TypeId} (hM : C.P.underlying t = some (.map kt et)) (hx : ev T x = some (.mapl b)) (hg : gt H b = some (.map es ck)) :
    OpU C ⟨d, .range t x, ty, pos, after, g⟩ T H nx (.ptr nx 0) [(nx, some (.iter (.mapl b) ck [] ck))] (nx + 1) :=
  OpU.of_run (by intro c; simp) fun ρ Φ a w hf h2 h3 => by
    have hc := ev_con h2 hx
    obtain ⟨y, l, e1, e2, e3, e4⟩ := map_at h3 hg hc
    have hp := Post.new h3 (nx := nx) (hf nx (Nat.le_refl _) (Nat.lt_succ_self _)) (k := .iter (.mapl b) ck [] ck) (o := .mapIter (some y.1) ck #[] ck) 0 0 ⟨y.1, by rw [← e2]; exact hc, rfl, rfl⟩
    refine ⟨ρ.upd nx (w.heap.size, 0, 0), Φ, .pointer (some ⟨w.heap.size, 0, none⟩), w.alloc (.mapIter (some y.1) ck #[] ck), .inl ?_, ?_, by simpa using mk_ptr (Env.upd_same ρ nx (w.heap.size, 0, 0)) 0⟩
    · simp only [execOp, Instr.range, Sem.run_bind, run_underlying hM, Result.andThen_ok, e2, run_getMap e3, Sem.run_pure]
      simp
    · rw [List.cons_append, List.nil_append, gt_upG]; exact hp.more (by simp)
end ops

section next
variable {C : Ctx} {T : AT} {H : AH} {nx : Nat} {df : List Nat}
variable {K V : Type} [DecidableEq K] {ek : K → AV} {el : V → AV}
/-- What a step of an iterator comes to. -/
theorem run_next {P : Program} {w : World} {r m ck : Nat} {l : List MapEntry} {S : List Nat} {ty : TypeId} (h1 : w.heap[r]? = some (.mapIter (some m) ck S.toArray ck)) (h2 : w.heap[m]? = some (.map l.toArray ck)) (hl : ∀ e ∈ l, e.born < ck) :
    ((∀ e ∈ l, e.born ∈ S) ∧ (Instr.next (.pointer (some ⟨r, 0, none⟩)) false ty).run P w = .ok (.tuple #[.bool false]) w) ∨
    ∃ e ∈ l, ∃ dr, e.born ∉ S ∧ (Instr.next (.pointer (some ⟨r, 0, none⟩)) false ty).run P w = .ok (.tuple #[.bool true, e.key, e.val]) ({ w with drawn := dr }.putObj r (.mapIter (some m) ck (S ++ [e.born]).toArray ck)) := by
  have g1 : ∀ w' : World, w'.heap = w.heap → (getObj r).run P w' = .ok (.mapIter (some m) ck S.toArray ck) w' := fun w' e => by simp [getObj, Sem.run, e, h1]
  have g2 : (getObj m).run P w = .ok (.map l.toArray ck) w := run_getMap h2
  have s1 : ∀ (w' : World) o, w'.heap = w.heap → (setObj r o).run P w' = .ok () (w'.putObj r o) := fun w' o e => by simp [setObj, Sem.run, e, h1, World.putObj]
  have hall : (!S.toArray.isEmpty && !l.toArray.isEmpty && l.toArray.all fun e => decide (e.born ≥ ck)) = false := by
    cases l with
    | nil => simp
    | cons e l => have := hl e (by simp); simp; intro _ h; omega
  have hold : ((l.toArray.filter fun e => !S.toArray.contains e.born).filter fun e => decide (e.born < ck)) = (l.filter fun e => !S.contains e.born).toArray := by
    apply Array.ext'
    rw [Array.toList_filter, Array.toList_filter]
    rw [List.filter_eq_self.2]
    · simp
    · intro e he; have := hl e (List.mem_filter.1 he).1; simpa using this
  have hnew : ((l.toArray.filter fun e => !S.toArray.contains e.born).filter fun e => decide (e.born ≥ ck)) = #[] := by
    apply Array.ext'
    rw [Array.toList_filter, Array.toList_filter]
    rw [List.filter_eq_nil_iff.2]
    intro e he; have := hl e (List.mem_filter.1 he).1; simp; omega
  have hrun : (Instr.next (.pointer (some ⟨r, 0, none⟩)) false ty).run P w = (do
      match ((if (l.filter fun e => !S.contains e.born).isEmpty then #[none] else #[]) ++ ((l.filter fun e => !S.contains e.born).toArray).map some : Array (Option MapEntry))[← choose (.mapNext ((if (l.filter fun e => !S.contains e.born).isEmpty then #[none] else #[]) ++ ((l.filter fun e => !S.contains e.born).toArray).map some : Array (Option MapEntry)).size)]? with
      | some (some e) => setObj r (.mapIter (some m) ck (S.toArray.push e.born) ck); pure (.tuple #[.bool true, e.key, e.val])
      | some none => pure (.tuple #[.bool false])
      | none => stuck "Next: no such candidate" : Sem Value).run P w := by
    unfold Instr.next
    have hall' : ((!S.isEmpty && !l.isEmpty && l.toArray.all fun e => decide (e.born ≥ ck)) = true) ↔ False := by simpa using hall
    simp only [Sem.run_bind, g1 w rfl, Result.andThen_ok, g2, hold, hnew, Sem.run_pure, Array.append_empty, List.isEmpty_toArray]
    rw [if_neg (by rw [hall']; exact id), Sem.run_bind]
    rfl
  rw [hrun]
  by_cases he : (l.filter fun e => !S.contains e.born) = []
  · refine .inl ⟨fun e h => ?_, ?_⟩
    · have := List.filter_eq_nil_iff.1 he e h; simpa using this
    · rw [he]
      simp [choose, Sem.run, Question.forced, Sem.bind]
  · refine .inr ?_
    obtain ⟨F, hF⟩ : ∃ F, (l.filter fun e => !S.contains e.born) = F := ⟨_, rfl⟩
    rw [hF] at he
    have hm : ∀ e ∈ F, e ∈ l ∧ e.born ∉ S := fun e h => by
      rw [← hF] at h
      obtain ⟨h3, h4⟩ := List.mem_filter.1 h
      exact ⟨h3, by simpa using h4⟩
    have hne : F.isEmpty = false := by simpa using he
    rw [hF]
    simp only [hne, Bool.false_eq_true, if_false, Array.empty_append, Array.size_map, List.size_toArray]
    have hpos : 0 < F.length := List.length_pos_iff.2 he
    have key : ∃ q dr, q < F.length ∧ (choose (.mapNext F.length)).run P w = .ok q { w with drawn := dr } := by
      by_cases h3 : F.length ≤ 1
      · exact ⟨0, w.drawn, hpos, by simp [choose, Sem.run, Question.forced, h3]⟩
      · exact ⟨_, w.drawn + 1, Nat.mod_lt (w.tape w.drawn (.mapNext F.length)) hpos, by simp [choose, Sem.run, Question.forced, h3, Question.cut]⟩
    obtain ⟨q, dr, hq, hc⟩ := key
    refine ⟨F[q], (hm _ (List.getElem_mem hq)).1, dr, (hm _ (List.getElem_mem hq)).2, ?_⟩
    rw [Sem.run_bind, hc, Result.andThen_ok]
    simp only [List.map_toArray, List.getElem?_toArray, List.getElem?_map, List.getElem?_eq_getElem hq, Option.map_some]
    rw [Sem.run_bind, s1 { w with drawn := dr } _ rfl, Result.andThen_ok, Sem.run_pure]
    simp
theorem conE_mem {ρ : Env} {Φ : Fz} {w : World} : ∀ {M : List (K × V × Nat)} {l : List MapEntry}, ConE ρ Φ w (mE ek el M) l → ∀ e ∈ l, ∃ x ∈ M, e.born = x.2.2 ∧ Con ρ Φ w (ek x.1) e.key ∧ Con ρ Φ w (el x.2.1) e.val
  | [], l, h, e, he => by simp only [mE, List.map_nil, ConE] at h; subst h; simp at he
  | x :: M, l, h, e, he => by
    simp only [mE, List.map_cons, ConE] at h
    obtain ⟨a, b, l', rfl, h1, h2, h3⟩ := h
    rcases List.mem_cons.1 he with rfl | he
    · exact ⟨x, by simp, rfl, h1, h2⟩
    · obtain ⟨y, hy, h4⟩ := conE_mem h3 e he
      exact ⟨y, List.mem_cons_of_mem _ hy, h4⟩
theorem conE_born {ρ : Env} {Φ : Fz} {w : World} : ∀ {M : List (K × V × Nat)} {l : List MapEntry}, ConE ρ Φ w (mE ek el M) l → l.map (·.born) = M.map (·.2.2)
  | [], l, h => by simp only [mE, List.map_nil, ConE] at h; subst h; rfl
  | x :: M, l, h => by
    simp only [mE, List.map_cons, ConE] at h
    obtain ⟨a, b, l', rfl, h1, h2, h3⟩ := h
    simp only [List.map_cons]; rw [conE_born h3]
/-- A step of a range over a map. -/
theorem Rnext {ops : Array Oper} {i : Nat} {Q : St → Prop} {o : Oper} {x : Operand} {it b d ck : Nat} {S : List Nat} {M : List (K × V × Nat)} {c : Bool}
    (ho : nth ops.toList i = some o) (hg : wantedA ops.toList T o = some c) (hc : c = true) (hop : o.op = .next x false) (hd : o.dst = some d) (ht : d.blt C.nt = true) (hx : ev T x = some (.ptr it 0)) (hit : gt H it = some (.iter (.mapl b) ck S ck)) (hb : gt H b = some (.map (mE ek el M) ck)) (hM : ∀ e ∈ M, e.2.2 < ck)
    (kend : (∀ e ∈ M, e.2.2 ∈ S) → Reg C ops (i + 1) Q ⟨(d, .tup [.bool false]) :: T, H, nx, df⟩)
    (kstep : ∀ e ∈ M, e.2.2 ∉ S → Reg C ops (i + 1) Q ⟨(d, .tup [.bool true, ek e.1, el e.2.1]) :: T, (it, some (.iter (.mapl b) ck (S ++ [e.2.2]) ck)) :: H, nx, df⟩) :
    Reg C ops i Q ⟨T, H, nx, df⟩ := fun ρ Φ a w hcc Q' hQ => by
  obtain ⟨h1, h2⟩ := range_at ho
  rw [h2]
  simp only [wpOpsIn, h1]
  rw [wantedA_eq hcc.tm hg, hc, if_pos rfl]
  have e1 := ev_con hcc.tm hx
  simp only [Con] at e1
  obtain ⟨y, e2, e3⟩ := e1
  obtain ⟨y', ob, e4, e5, r, e6, rfl, e7⟩ := hcc.mem.at_ it _ hit
  rw [e2] at e4; cases e4
  have e6' := e6
  simp only [Con] at e6'
  obtain ⟨z, f1, f2⟩ := e6'
  cases f2
  obtain ⟨z', ob, f3, f4, l, f5, rfl⟩ := hcc.mem.at_ b _ hb
  rw [f1] at f3; cases f3
  have hl : ∀ e ∈ l, e.born < ck := fun e he => by
    obtain ⟨x, hx, h3, _⟩ := conE_mem f5 e he
    rw [h3]; exact hM x hx
  have hop' : ∀ e, o.op ≠ .defer e := by intro e; rw [hop]; simp
  have hex : ∀ v w', (Instr.next (a.eval x) false o.type).run C.P w = .ok v w' → (execOp a.eval o).run C.P w = .ok (.value v) w' := fun v w' h => by
    unfold execOp; rw [hop]; simp [h]
  have e3' : a.eval x = .pointer (some ⟨y.1, 0, none⟩) := by rw [e3, e7]
  have hbH : ∀ e ∈ M, ∃ e' ∈ l, e'.born = e.2.2 := fun e he => by
    have h4 : e.2.2 ∈ l.map (·.born) := by rw [conE_born f5]; exact List.mem_map.2 ⟨e, he, rfl⟩
    obtain ⟨e', h5, h6⟩ := List.mem_map.1 h4; exact ⟨e', h5, h6⟩
  rcases run_next (P := C.P) (ty := o.type) e5 f4 hl with ⟨h3, h4⟩ | ⟨e, he, dr, h3, h4⟩
  · refine wp_of_run hop' (.inl (hex _ _ (by rw [e3']; exact h4))) ?_
    have := hcc.step (ups := []) (v := .tup [.bool false]) (x := .tuple #[.bool false]) (d := some d) (Post.same hcc.mem nx) (by simp only [Con]; exact ⟨[.bool false], conL_cons mk_bool conL_nil, rfl⟩) (by simpa using ltOf ht) (Nat.le_refl _)
    rw [hd]
    exact kend (fun x hx => by obtain ⟨e', h5, h6⟩ := hbH x hx; rw [← h6]; exact h3 e' h5) ρ Φ _ w this Q' hQ
  · refine wp_of_run hop' (.inl (hex _ _ (by rw [e3']; exact h4))) ?_
    obtain ⟨x', hx', h5, h6, h7⟩ := conE_mem f5 e he
    have hdr : ∀ r, Φ r → ({ w with drawn := dr } : World).heap[r]? = w.heap[r]? := fun _ _ => rfl
    have hp := (Post.set (hcc.mem.drewn dr) nx (k' := .iter (.mapl b) ck (S ++ [e.born]) ck) hit e2 (oneNew_put (w := { w with drawn := dr }) (o := .mapIter (some z.1) ck (S ++ [e.born]).toArray ck) e5) ⟨z.1, Con.mono ρ.le_refl Φ.le_refl hdr _ e6, rfl, e7⟩).undraw
    rw [← gt_upG] at hp
    have hstab : ∀ r, Φ r → (({ w with drawn := dr } : World).putObj y.1 (.mapIter (some z.1) ck (S ++ [e.born]).toArray ck)).heap[r]? = w.heap[r]? := hp.stab
    have := hcc.step (ups := [(it, some (.iter (.mapl b) ck (S ++ [e.born]) ck))]) (v := .tup [.bool true, ek x'.1, el x'.2.1]) (x := .tuple #[.bool true, e.key, e.val]) (d := some d) hp
      (by simp only [Con]; exact ⟨[.bool true, e.key, e.val], conL_cons mk_bool (conL_cons (Con.mono ρ.le_refl Φ.le_refl hstab _ h6) (conL_cons (Con.mono ρ.le_refl Φ.le_refl hstab _ h7) conL_nil)), rfl⟩) (by simpa using ltOf ht) (Nat.le_refl _)
    rw [hd]
    rw [h5] at this h3
    have hk := kstep x' hx' h3
    rw [h5]
    exact hk ρ Φ _ _ this Q' hQ

/-! ### The entries that were, and those that are to come -/
/-- The stamps of some entries. -/
def stamps (P : List (K × V × Nat)) : List Nat := P.map (·.2.2)
theorem perm_end {L P R : List (K × V × Nat)} {M : List (K × V × Nat)} {ck : Nat} (hok : MOk ck L) (hp : (P ++ R).Perm L) (hR : ∀ e ∈ R, e ∈ M) (h : ∀ e ∈ M, e.2.2 ∈ stamps P) : R = [] := by
  cases R with
  | nil => rfl
  | cons e R =>
    have h1 := h e (hR e (by simp))
    have h2 := (hp.map (·.2.2)).nodup_iff.2 hok.st
    rw [List.map_append, List.nodup_append] at h2
    exact absurd rfl (h2.2.2 _ h1 e.2.2 (by simp))
theorem perm_step {L P R : List (K × V × Nat)} (hp : (P ++ R).Perm L) {e : K × V × Nat} (he : e ∈ L) (hn : e.2.2 ∉ stamps P) : ∃ R1 R2, R = R1 ++ e :: R2 ∧ ((P ++ [e]) ++ (R1 ++ R2)).Perm L := by
  have h1 : e ∈ P ++ R := hp.mem_iff.2 he
  rcases List.mem_append.1 h1 with h1 | h1
  · exact absurd (List.mem_map.2 ⟨e, h1, rfl⟩) hn
  · obtain ⟨R1, R2, rfl⟩ := List.append_of_mem h1
    refine ⟨R1, R2, rfl, ?_⟩
    refine List.Perm.trans ?_ hp
    rw [List.append_assoc]
    refine List.Perm.append_left P ?_
    rw [List.singleton_append]
    exact (List.perm_middle).symm
theorem stamps_snoc (P : List (K × V × Nat)) (e : K × V × Nat) : stamps (P ++ [e]) = stamps P ++ [e.2.2] := by simp [stamps]
/-- A step of a range over a map, by what was and what is to come. -/
theorem RnextP {L P R : List (K × V × Nat)} {ops : Array Oper} {i : Nat} {Q : St → Prop} {o : Oper} {x : Operand} {it b d ck : Nat} {M : List (K × V × Nat)} {c : Bool} (hok : MOk ck L) (hp : (P ++ R).Perm L) (hRM : ∀ e ∈ R, e ∈ M) (hML : ∀ e ∈ M, e ∈ L)
    (ho : nth ops.toList i = some o) (hg : wantedA ops.toList T o = some c) (hc : c = true) (hop : o.op = .next x false) (hd : o.dst = some d) (ht : d.blt C.nt = true) (hx : ev T x = some (.ptr it 0)) (hit : gt H it = some (.iter (.mapl b) ck (stamps P) ck)) (hb : gt H b = some (.map (mE ek el M) ck))
    (kend : R = [] → Reg C ops (i + 1) Q ⟨(d, .tup [.bool false]) :: T, H, nx, df⟩)
    (kstep : ∀ e R1 R2, e ∈ M → R = R1 ++ e :: R2 → ((P ++ [e]) ++ (R1 ++ R2)).Perm L → Reg C ops (i + 1) Q ⟨(d, .tup [.bool true, ek e.1, el e.2.1]) :: T, (it, some (.iter (.mapl b) ck (stamps (P ++ [e])) ck)) :: H, nx, df⟩) :
    Reg C ops i Q ⟨T, H, nx, df⟩ :=
  Rnext ho hg hc hop hd ht hx hit hb (fun e he => hok.lt e (hML e he)) (fun h => kend (perm_end hok hp hRM h)) fun e he hn => by
    obtain ⟨R1, R2, h1, h2⟩ := perm_step hp (hML e he) hn
    rw [← stamps_snoc]; exact kstep e R1 R2 he h1 h2
/-- The entry of the step. -/
theorem U_entryM {d : Option Tmp} {ty : TypeId} {pos : String} {after : Array Edge} {g : Option (Nat × Bool)} {x : Operand} {it b ck : Nat} {P M : List (K × V × Nat)} {e : K × V × Nat} (hx : ev T x = some (.ptr it 0)) (hit : gt H it = some (.iter (.mapl b) ck (stamps (P ++ [e])) ck)) (hb : gt H b = some (.map (mE ek el M) ck)) (hM : (M.map (·.2.2)).Nodup) (he : e ∈ M) :
    OpU C ⟨d, .entry x, ty, pos, after, g⟩ T H nx (.tup [ek e.1, el e.2.1]) [] nx :=
  OpU.of_value (by intro c; simp) fun ρ Φ a w h2 h3 => by
    have e1 := ev_con h2 hx
    simp only [Con] at e1
    obtain ⟨y, e2, e3⟩ := e1
    obtain ⟨y', ob, e4, e5, r, e6, rfl, e7⟩ := h3.at_ it _ hit
    rw [e2] at e4; cases e4
    have e6' := e6
    simp only [Con] at e6'
    obtain ⟨z, f1, f2⟩ := e6'
    cases f2
    obtain ⟨z', ob, f3, f4, l, f5, rfl⟩ := h3.at_ b _ hb
    rw [f1] at f3; cases f3
    have hfind : ∀ (M : List (K × V × Nat)) (l : List MapEntry), ConE ρ Φ w (mE ek el M) l → (M.map (·.2.2)).Nodup → e ∈ M → ∃ e', l.find? (·.born == e.2.2) = some e' ∧ Con ρ Φ w (ek e.1) e'.key ∧ Con ρ Φ w (el e.2.1) e'.val := by
      intro M
      induction M with
      | nil => intro l _ _ h; simp at h
      | cons x M ih =>
        intro l hc hn hm
        simp only [mE, List.map_cons, ConE] at hc
        obtain ⟨p, q, l', rfl, h1, h2, h3⟩ := hc
        simp only [List.map_cons, List.nodup_cons] at hn
        rcases List.mem_cons.1 hm with rfl | hm
        · exact ⟨⟨p, q, e.2.2⟩, by simp, h1, h2⟩
        · have hne : x.2.2 ≠ e.2.2 := fun h => hn.1 (h ▸ List.mem_map.2 ⟨e, hm, rfl⟩)
          obtain ⟨e', g1, g2⟩ := ih l' h3 hn.2 hm
          exact ⟨e', by rw [List.find?_cons_of_neg (by simpa using hne)]; exact g1, g2⟩
    obtain ⟨e', g1, g2, g3⟩ := hfind M l f5 hM he
    refine ⟨.tuple #[e'.key, e'.val], ?_, by simp only [Con]; exact ⟨[e'.key, e'.val], conL_cons g2 (conL_cons g3 conL_nil), rfl⟩⟩
    have r1 : (getObj y.1).run C.P w = .ok (.mapIter (some z.1) ck (stamps (P ++ [e])).toArray ck) w := by simp [getObj, Sem.run, e5]
    have r2 : (stamps (P ++ [e])).toArray.back? = some e.2.2 := by rw [stamps_snoc]; simp
    have e3' : a.eval x = .pointer (some ⟨y.1, 0, none⟩) := by rw [e3, e7]
    have r3 : l.toArray.find? (fun x => x.born == e.2.2) = some e' := by rw [List.find?_toArray]; exact g1
    simp only [execOp, Instr.entry, e3', Sem.run_bind, r1, Result.andThen_ok, r2, run_getMap f4, r3, Sem.run_pure]
    simp [r3]
theorem renE_data {σ : Nat → Nat} : ∀ (l : List (AV × AV × Nat)), dataE l → renE σ l = l
  | [], _ => rfl
  | (k, v, n) :: l, h => by
    obtain ⟨h1, h2, h3⟩ := dataE_cons.1 h
    simp only [renE, ren_data k h1, ren_data v h2, renE_data l h3]
theorem belbE_data {n : Nat} : ∀ (l : List (AV × AV × Nat)), dataE l → belbE n l = true
  | [], _ => rfl
  | (k, v, m) :: l, h => by
    obtain ⟨h1, h2, h3⟩ := dataE_cons.1 h
    simp only [belbE, belb_data k h1, belb_data v h2, belbE_data l h3, Bool.and_self]
/-- Rows of maps, from state to state. -/
theorem rMp {σ : Nat → Nat} {n b ck : Nat} {es : List (AV × AV × Nat)} {H : AH} (hd : dataE es) (h : gt H (σ b) = some (.map es ck)) (hb : b.blt n = true) : rowTo σ n b (some (.map es ck)) H := fun _ e => by
  cases e; exact ⟨by rw [h]; simp only [ABlk.ren, renE_data es hd], ltOf hb, by simp only [ABlk.belb, belbE_data es hd]⟩
theorem fr_data {b : Nat} {cs : List AV} : ∀ (v : AV), v.data → v.fr b cs = v := fun v h => fr_nob v (by
  have := nobL_data (b := b) [v] (by simp only [dataL, isdL, Bool.and_true]; exact h)
  simpa only [nobL, Bool.and_true] using this)
theorem frE_data {b : Nat} {cs : List AV} : ∀ (l : List (AV × AV × Nat)), dataE l → frE b cs l = l
  | [], _ => rfl
  | (k, v, n) :: l, h => by
    obtain ⟨h1, h2, h3⟩ := dataE_cons.1 h
    simp only [frE, fr_data k h1, fr_data v h2, frE_data l h3]
theorem rFMp {b ck : Nat} {cs : List AV} {es : List (AV × AV × Nat)} {k : Option ABlk} (hd : dataE es) (h : k = some (.map es ck)) : RowF b cs k (some (.map es ck)) := rF h (by simp only [ABlk.fr, frE_data es hd])
theorem mapAt {α β : Type} {f : α → β} {l : List α} {i : Nat} {x : β} (h : (l.map f)[i]? = some x) : ∃ hi : i < l.length, f l[i] = x := by
  rw [List.getElem?_map] at h
  cases e : l[i]? with
  | none => rw [e] at h; cases h
  | some a => rw [e] at h; cases h; obtain ⟨h1, h2⟩ := List.getElem?_eq_some_iff.1 e; exact ⟨h1, by rw [h2]⟩
theorem bleR (n : Nat) : n.ble n = true := by rw [Nat.ble_eq]; exact Nat.le_refl n
theorem bltR (n : Nat) : n.blt (n + 1) = true := by rw [Nat.blt_eq]; exact Nat.lt_succ_self n
end next
end Go.AE
end

section
/- Abstract states, thirty-first part: arrays as values. -/
namespace Go.AE
open Go.RowKit
section
variable {C : Ctx} {T : AT} {H : AH} {nx : Nat} {d : Option Tmp} {ty : TypeId} {pos : String} {after : Array Edge} {g : Option (Nat × Bool)}
/-- An array's element. -/
theorem U_indexV {t : TypeId} {x i : Operand} {k : IntKind} {cs : List AV} {len e n en j : Nat} {m : Int} {ag : Bool} {v : AV} [hT : TyAr C.P t len e n] [hV : TyVar C.P e ag en] (hx : ev T x = some (.agg cs)) (hi : ev T i = some (.int k m)) (hj : m = j) (hlt : j < len) (hv : cellsAt ag cs (j * n) en = some v) :
    OpU C ⟨d, .index t x i, ty, pos, after, g⟩ T H nx v [] nx :=
  OpU.of_value (by intro c; simp) fun ρ Φ a w h2 _ => by
    subst hj
    have hp := ev_con h2 hx
    simp only [Con] at hp
    obtain ⟨xs, h1, h3⟩ := hp
    have hnn : en = n := by have h4 := hT.size w; rw [hV.size w] at h4; cases h4; rfl
    have hi' := con_int (ev_con h2 hi)
    have hlt' : (0 : Int) ≤ (j : Int) ∧ (j : Int) < len := by omega
    cases ag
    · obtain ⟨y, hy, hy2⟩ := conL_get h1 (j * n) v hv
      refine ⟨y, ?_, hy⟩
      simp only [execOp, h3, hi', Instr.index, asIntOf, Sem.run_bind, Sem.run_pure, Result.andThen_ok, run_underlying hT.un, hlt', and_self, if_true, hT.size, Int.toNat_natCast, part, hV.isagg, Bool.false_eq_true, if_false, List.getElem?_toArray, hy2]
    · simp only [cellsAt] at hv
      split at hv
      · cases hv
        subst hnn
        refine ⟨.agg (xs.toArray.extract (j * en) (j * en + en)), ?_, ?_⟩
        · simp only [execOp, h3, hi', Instr.index, asIntOf, Sem.run_bind, Sem.run_pure, Result.andThen_ok, run_underlying hT.un, hlt', and_self, if_true, hT.size, Int.toNat_natCast, part, hV.isagg, hV.size]
        · simp only [Con]; exact ⟨_, conL_take en (conL_drop (j * en) h1), by simp⟩
      · cases hv
theorem numsOf_map {k : IntKind} : ∀ (l : List Int), numsOf (l.map (AV.int k)) = some l
  | [] => rfl
  | a :: l => by simp [numsOf, numsOf_map l]
theorem kindsA_map {k : IntKind} {n : Nat} : ∀ {l : List Int}, l.length = n → kindsA (l.map (AV.int k)) = List.replicate n k
  | [], h => by subst h; rfl
  | a :: l, h => by subst h; simp [kindsA, kindsA_map (l := l) rfl, List.replicate_succ]
theorem aggD {l : List AV} (h : dataL l) : (AV.agg l).data := by simp only [AV.data, AV.isd]; exact h
theorem allOne {α : Type} {f : α → AV} (h : ∀ x, (f x).one = true) (l : List α) : (l.map f).all AV.one = true := by simp [h]
theorem stLt {α : Type} {f : α → AV} {l : List α} {j : Nat} (h : j < l.length) : 0 + j * 1 + 1 ≤ (l.map f).length := by simp; omega
/-- An array's cell. -/
theorem cellM {α : Type} {f : α → AV} {l : List α} {j n : Nat} (h : j < l.length) : cellsAt false (l.map f) (j * 1) n = some (f l[j]) := by simp [cellsAt, h]
theorem rMp' {σ : Nat → Nat} {n b ck ck' : Nat} {es es' : List (AV × AV × Nat)} {H : AH} (hd : dataE es) (h : gt H (σ b) = some (.map es' ck')) (e1 : es' = es) (e2 : ck' = ck) (hb : b.blt n = true) : rowTo σ n b (some (.map es ck)) H := by
  subst e1; subst e2; exact rMp hd h hb
theorem rMM {σ σ' : Nat → Nat} {n b ck : Nat} {es : List (AV × AV × Nat)} {H : AH} (hd : dataE es) (h : gt H (σ b) = (some (.map es ck) : Option ABlk).map (ABlk.ren σ')) (hb : b.blt n = true) : rowTo σ n b (some (.map es ck)) H :=
  rMp hd (by rw [h]; simp only [Option.map_some, ABlk.ren, renE_data es hd]) hb
end
end Go.AE
end

section
/- Abstract states, thirty-second part: slices of arrays that are turned no more. -/
namespace Go.AE
open Go.RowKit
/-- Another round, where cells say less. -/
theorem againWeakH {C : Ctx} {T : AT} {H : AH} {nx : Nat} {df : List Nat} {I : Nat → St → Prop} {k b : Nat} {cs cs' : List AV} {t : TypeId} (hb : gt H b = some (.cells cs t)) (h : leL cs cs') (hk : againP C I k ⟨T, (b, some (.cells cs' t)) :: H, nx, df⟩) : againP C I k ⟨T, H, nx, df⟩ := by
  obtain ⟨s, m, h1, h2, h3⟩ := hk
  exact ⟨s, m, (Gh_weakH hb h).trans h1, h2, h3⟩
section
variable {C : Ctx} {T : AT} {H : AH} {nx : Nat} {d : Option Tmp} {ty : TypeId} {pos : String} {after : Array Edge} {g : Option (Nat × Bool)}
theorem U_sliceAR {t len e z l h : Nat} {x : Operand} {lo hi : Option Operand} {cs cs' : List AV} [hT : TyAr C.P t len e z] (hx : ev T x = some (.rop cs 0)) (hlo : BndIs T lo 0 l) (hhi : BndIs T hi len h) (h1 : l ≤ h) (h2 : h ≤ len) (hlc : l < len) (hc : cs.drop (l * z) = cs') :
    OpU C ⟨d, .slice t x lo hi none, ty, pos, after, g⟩ T H nx (.ros cs' (h - l) (some (len - l))) [] nx :=
  OpU.of_value (by intro c; simp) fun ρ Φ a w h3 _ => by
    subst hc
    have hp := ev_con h3 hx
    simp only [Con] at hp
    obtain ⟨r, base, xs, f1, f2, f3, f4, f5⟩ := hp
    have hb : (Instr.sliceBounds false len len (lo.map a.eval) (hi.map a.eval) none).run C.P w = .ok (l, h, len) w := by
      have e3 := bndIs_con h3 hlo
      have e4 := bndIs_con h3 hhi
      unfold Instr.sliceBounds
      cases hhh : hi.map a.eval with
      | none =>
        rw [hhh] at e4; simp only at e4; subst e4
        cases hll : lo.map a.eval with
        | none => rw [hll] at e3; simp only at e3; subst e3; simp
        | some v => rw [hll] at e3; obtain ⟨kk, rfl⟩ := e3; simp [run_sliceBound rfl h1]
      | some u =>
        rw [hhh] at e4; obtain ⟨kk, rfl⟩ := e4
        cases hll : lo.map a.eval with
        | none => rw [hll] at e3; simp only at e3; subst e3; simp [run_sliceBound rfl h2]
        | some v => rw [hll] at e3; obtain ⟨kk', rfl⟩ := e3; simp [run_sliceBound rfl h1, run_sliceBound rfl h2]
    refine ⟨.slice (some ⟨r, base + 0 + l * z, none⟩) (h - l) (len - l), ?_, ?_⟩
    · simp only [execOp, f2, Sem.run_bind, Option.map_none, Instr.sliceAt, run_underlying hT.un, Instr.sureAddr, Sem.run_pure, Result.andThen_ok, hb, hT.size, if_neg (show ¬ len = l by omega), add_at]
    · simp only [Con]
      refine .inr ⟨r, base + 0 + l * z, xs.drop (l * z), len - l, f1, rfl, by omega, fun m hm => by cases hm; rfl, conL_drop _ f3, fun j v hj => ?_, dataL_drop f5 _⟩
      rw [List.getElem?_drop] at hj
      have := f4 _ _ hj
      rw [Nat.add_zero, Nat.add_assoc]; exact this
/-- append of a whole list to nothing. -/
theorem U_appL {sT xT e e' z n n' : Nat} {x y : Operand} {s v : AV} {news : List AV} [hT : TySl C.P sT e z] [hX : TySl C.P xT e' z] [hE : TyElem C.P e z] (hx : ev T x = some s) (hs : srcS z H s = some ([], 0)) (hc0 : capOf s = some 0) (hy : ev T y = some v) (h2 : srcS z H v = some (news, n)) (hn : 0 < n) (hlim : n ≤ 1000000) (hn' : n = n') :
    OpU C ⟨d, .call ⟨.builtin .append, #[x, y], #[sT, xT]⟩, ty, pos, after, g⟩ T H nx (.out nx n' z) [(nx, outB news e n')] (nx + 1) := by
  subst hn'
  cases n with
  | zero => cases hn
  | succ m =>
    have h := U_appendGrow (C := C) (T := T) (H := H) (nx := nx) (d := d) (ty := ty) (pos := pos) (after := after) (g := g) (sT := sT) (xT := xT) hx hy hs h2 hc0 (by omega) (by omega)
    rw [Nat.zero_add] at h
    exact OpU.weakV (fun _ _ _ _ h => con_outS.2 h) h
/-- The end of a list, as a list. -/
theorem U_sliceFromL {t e z n l n' : Nat} {c : Option Nat} {x lo : Operand} {cs cs' : List AV} [hT : TySl C.P t e z] (hx : ev T x = some (.ros cs n c)) (hlo : bnd T 0 (some lo) = some (l : Int)) (h2 : l ≤ n) (hl : cs.length = n * z) (hc : cs.drop (l * z) = cs') (hn : n - l = n') :
    OpU C ⟨d, .slice t x (some lo) none none, ty, pos, after, g⟩ T H nx (.ros cs' n' none) [] nx := by
  subst hc; subst hn
  rcases Nat.lt_or_eq_of_le h2 with h | rfl
  · exact OpU.weakV le_cap (U_sliceR (lo := some lo) (hi := none) hx hlo rfl h (Nat.le_refl _))
  · rw [List.drop_eq_nil_of_le (by omega), Nat.sub_self]
    exact OpU.weakV le_cap (U_sliceR0 (lo := some lo) (hi := none) hx hlo rfl (Nat.le_refl _))
end
end Go.AE
end

section
/- Abstract states, thirty-third part: bytes. -/
namespace Go.AE
open Go.RowKit
theorem shrN8 {n i : Nat} (h : n < 256) : ((n : Nat) : Int).fdiv (2 ^ min ((i : Nat) : Int).toNat IntKind.u8.bits) = ((n >>> i : Nat) : Int) := by
  have hb : IntKind.u8.bits = 8 := rfl
  rw [hb, Int.toNat_natCast, Int.fdiv_eq_ediv_of_nonneg _ (by exact_mod_cast Nat.zero_le (2 ^ min i 8)), Nat.shiftRight_eq_div_pow]
  by_cases hi : i ≤ 8
  · rw [Nat.min_eq_left hi]; norm_cast
  · rw [Nat.min_eq_right (by omega)]
    have h1 : n / 2 ^ i = 0 := Nat.div_eq_of_lt (Nat.lt_of_lt_of_le h (Nat.le_trans (by decide) (Nat.pow_le_pow_right (show 0 < 2 by omega) (show 8 ≤ i by omega))))
    rw [h1]
    omega
theorem ofIntN8 {n : Nat} (hn : n < 256) : (BitVec.ofInt 8 (n : Int)).toNat = n := by
  rw [BitVec.toNat_ofInt]; omega
theorem andN8 {a b : Nat} (ha : a < 256) (hb : b < 256) : IntKind.u8.wrap (BitVec.ofInt IntKind.u8.bits ((a : Nat) : Int) &&& BitVec.ofInt IntKind.u8.bits ((b : Nat) : Int)).toNat = ((a &&& b : Nat) : Int) := by
  have e : (BitVec.ofInt IntKind.u8.bits ((a : Nat) : Int) &&& BitVec.ofInt IntKind.u8.bits ((b : Nat) : Int)).toNat = a &&& b := by
    show (BitVec.ofInt 8 (a : Int) &&& BitVec.ofInt 8 (b : Int)).toNat = _
    rw [BitVec.toNat_and, ofIntN8 ha, ofIntN8 hb]
  rw [e]
  have h1 : a &&& b ≤ a := Nat.and_le_left
  exact wr_u8 (by omega) (by omega)
theorem orN8 {a b : Nat} (ha : a < 256) (hb : b < 256) : IntKind.u8.wrap (BitVec.ofInt IntKind.u8.bits ((a : Nat) : Int) ||| BitVec.ofInt IntKind.u8.bits ((b : Nat) : Int)).toNat = ((a ||| b : Nat) : Int) := by
  have e : (BitVec.ofInt IntKind.u8.bits ((a : Nat) : Int) ||| BitVec.ofInt IntKind.u8.bits ((b : Nat) : Int)).toNat = a ||| b := by
    show (BitVec.ofInt 8 (a : Int) ||| BitVec.ofInt 8 (b : Int)).toNat = _
    rw [BitVec.toNat_or, ofIntN8 ha, ofIntN8 hb]
  rw [e]
  have h1 : a ||| b < 2 ^ 8 := Nat.or_lt_two_pow ha hb
  exact wr_u8 (by omega) (by omega)
theorem shlN8 {n i : Nat} (h : n * 2 ^ i < 256) (hi : i < 8) : IntKind.u8.wrap (((n : Nat) : Int) * 2 ^ min ((i : Nat) : Int).toNat IntKind.u8.bits) = ((n <<< i : Nat) : Int) := by
  have hb : IntKind.u8.bits = 8 := rfl
  rw [hb, Int.toNat_natCast, Nat.min_eq_left (by omega), Nat.shiftLeft_eq]
  have : ((n : Nat) : Int) * 2 ^ i = ((n * 2 ^ i : Nat) : Int) := by norm_cast
  rw [this]
  exact wr_u8 (by omega) (by omega)
theorem upsF {Hr : AH} {nx b n : Nat} {k k' : Option ABlk} {cs : List AV} {e : TypeId} (hg : gt Hr b = outB cs e n) (hn : 0 < n) : upsOk 2 Hr nx (nx + 1) [(nx, k), (nx, k'), (b, none)] = true := by
  obtain ⟨m, rfl⟩ : ∃ m, n = m + 1 := ⟨n - 1, by omega⟩
  simp [upsOk, hg, outB]
/-- A list that grew in an operation is turned no more. -/
theorem OpU.frz {C : Ctx} {o : Oper} {T : AT} {H : AH} {nx nx' b n z : Nat} {t : TypeId} {cs : List AV} {ups : AH} (h : OpU C o T H nx (.out b n z) ups nx') (hg : gt (ups ++ H) b = outB cs t n) (hn : 0 < n) (hd : dataL cs) (hb1 : nx ≤ b) (hb2 : b < nx') : OpU C o T H nx (.ros cs n none) ((b, none) :: ups) nx' := by
  obtain ⟨m, rfl⟩ : ∃ m, n = m + 1 := ⟨n - 1, by omega⟩
  have hg' : gt (ups ++ H) b = some (.cells cs t) := hg
  intro ρ Φ a w h1 h2 h3 K Q kk
  refine h ρ Φ a w h1 h2 h3 K Q fun ρ' Φ' x w' hp hx => ?_
  have hne : gt (ups ++ H) b ≠ none := by rw [hg']; simp
  obtain ⟨x1, o1, e1, e2, pre, xs, rest, e3, e4, e5, e6⟩ := hp.mem.at_ b _ hg'
  have hm := hp.mem.freeze e1 hne
  have hle : Fz.le Φ' (fun r => Φ' r ∨ r = x1.1) := fun _ hr => .inl hr
  have hxs := e3.mono ρ'.le_refl hle (fun _ _ => rfl)
  have hat : At w' x1.1 x1.2.1 xs := e4 ▸ at_of_cells (e6 ▸ e2)
  have hx2 := Con.fr e1 (.inr rfl) hxs hat hd (.out b (m + 1) z) (Con.mono ρ'.le_refl hle (fun _ _ => rfl) _ hx)
  simp only [AV.fr, Nat.beq_refl, if_true, List.drop_zero] at hx2
  have hp' := hp.more (l' := ((b, none) :: ups).map (·.1)) (fun c hc => List.mem_cons_of_mem _ hc)
  refine kk ρ' _ x w' ⟨hp'.le, hp'.dom, Fz.le_trans hp'.fle hle, fun r hr => ?_, hp'.keep, hp'.stab, fun c y hc => hp'.bnew c y fun e => hc ?_, ?_, hp'.dk.trans (hp.mem.dkFreeze hg' e1)⟩ hx2
  · rcases hr with hr | rfl
    · exact hp'.fnew r hr
    · rcases hp'.bnew b x1 hne (h1 b hb1 hb2) e1 with h5 | h5
      · exact .inr (.inl h5)
      · exact .inr (.inr ⟨h5, hp.mem.own b x1 hne e1⟩)
  · rw [List.cons_append, gt_upG]; unfold upG; split
    · rfl
    · exact e
  · rw [List.cons_append, gt_upG]; exact hm
end Go.AE
end

section
/- Abstract states, thirty-fourth part: numbers that are known to be the same. -/
namespace Go.AE
open Go.RowKit
section
variable {C : Ctx} {T : AT} {H : AH} {nx : Nat} {d : Option Tmp} {ty : TypeId} {pos : String} {after : Array Edge} {g : Option (Nat × Bool)}
theorem U_eqlE {t t' : TypeId} {x y : Operand} {k : IntKind} {a b : Int} (hx : ev T x = some (.int k a)) (hy : ev T y = some (.int k b)) (e : a = b) : OpU C ⟨d, .binOp .eql t x y t', ty, pos, after, g⟩ T H nx (.bool true) [] nx := by
  have h := U_eql (C := C) (t := t) (t' := t') (d := d) (ty := ty) (pos := pos) (after := after) (g := g) (H := H) (nx := nx) hx hy
  rwa [decide_eq_true e] at h
theorem U_neqE {t t' : TypeId} {x y : Operand} {k : IntKind} {a b : Int} (hx : ev T x = some (.int k a)) (hy : ev T y = some (.int k b)) (e : a = b) : OpU C ⟨d, .binOp .neq t x y t', ty, pos, after, g⟩ T H nx (.bool false) [] nx := by
  have h := U_neq (C := C) (t := t) (t' := t') (d := d) (ty := ty) (pos := pos) (after := after) (g := g) (H := H) (nx := nx) hx hy
  rwa [decide_eq_false (fun k => k e)] at h
end
end Go.AE
end

section
/- The bridge: what a statement's input reads as, in abstract values; and from a contract over data to the given row. -/
namespace Go.AE
open Go.RowKit Go.ChangeShapes

/-- The blocks that there are. -/
abbrev Old (W : World) : Fz := fun r => r < W.heap.size
/-- Cells of this type stand for one of these rows of values. -/
def Reads (P : Program) (t : TypeId) (A : List AV → Prop) : Prop :=
  ∀ (H : Type) (enc : TypeId × Value → H) (W : World) (n : Nat) (cs : List Value) (x : DataW H × List MemPlace),
    DataW.trod enc P W 0 (fun _ => true) true n t cs = some x → ∃ vs, A vs ∧ dataL vs ∧ ConL Env.nil (Old W) W vs cs
theorem Reads.mono {P : Program} {t : TypeId} {A B : List AV → Prop} (h : Reads P t A) (k : ∀ vs, A vs → B vs) : Reads P t B := fun H enc W n cs x e => by
  obtain ⟨vs, h1, h2, h3⟩ := h H enc W n cs x e; exact ⟨vs, k _ h1, h2, h3⟩
theorem Reads.int {P : Program} {t : TypeId} {k : IntKind} (ht : P.underlying t = some (.int k)) : Reads P t fun vs => ∃ n, (k.min ≤ n ∧ n ≤ k.max) ∧ vs = [.int k n] := fun H enc W n cs x e => by
  obtain ⟨m, rfl, _, hw⟩ := DataW.trod_int ht e
  exact ⟨_, ⟨m, by simpa [Lit.wf] using hw, rfl⟩, rfl, conL_cons (by simp [Con]) conL_nil⟩
theorem Reads.bool {P : Program} {t : TypeId} (ht : P.underlying t = some .bool) : Reads P t fun vs => ∃ b, vs = [.bool b] := fun H enc W n cs x e => by
  obtain ⟨b, rfl, _⟩ := DataW.trod_bool ht e
  exact ⟨_, ⟨b, rfl⟩, rfl, conL_cons (by simp [Con]) conL_nil⟩

theorem addr_of_cell {W : World} {a : Addr} {v : Value} (h : W.cell? a = some v) : a = ⟨a.block, a.off, none⟩ ∧ a.block < W.heap.size := by
  unfold World.cell? at h
  split at h
  · rename_i c _ _ e
    refine ⟨?_, (Array.getElem?_eq_some_iff.1 e).1⟩
    split at h
    · cases h
    · rename_i hs
      cases a with
      | mk b o s => cases s with
        | none => rfl
        | some s => simp at hs
  · cases h
theorem Reads.slice {P : Program} {t e z : Nat} {A : List AV → Prop} (ht : P.underlying t = some (.slice e)) (hz : P.cellsOf e = z) (h0 : 0 < z) (hA : Reads P e A) :
    Reads P t fun vs => ∃ ls : List (List AV), (∀ l ∈ ls, A l) ∧ ls.length ≤ maxLen ∧ vs = [.ros ls.flatten ls.length none] := fun H enc W n cs x e' => by
  rcases DataW.trod_slice ht e' with ⟨rfl, _⟩ | ⟨a, len, cap, elems, rest, m, _, rfl, _, _, hlc, hcm, hl, hel, hre, _⟩
  · exact ⟨_, ⟨[], by simp, by simp, rfl⟩, rfl, conL_cons (by simp only [Con]; exact .inl ⟨rfl, ⟨none, rfl⟩, fun m hm => by cases hm⟩) conL_nil⟩
  subst hz
  have hone : ∀ i, i < cap → ∃ y cs', W.cells? 0 (a.add (i * P.cellsOf e)) (P.cellsOf e) = some cs' ∧ (i < len → DataW.trod enc P W 0 (fun _ => true) true m e cs' = some y) := by
    intro i hi
    by_cases h : i < len
    · have h1 := hel i h
      rw [List.getElem?_eq_getElem (by omega)] at h1
      obtain ⟨cs', h2, h3⟩ := Option.bind_eq_some_iff.1 h1
      exact ⟨_, cs', h2, fun _ => h3⟩
    · obtain ⟨h1, h2⟩ := hre rfl
      have h3 := h2 (i - len) (by omega)
      rw [List.getElem?_eq_getElem (by omega)] at h3
      obtain ⟨cs', h4, h5⟩ := Option.bind_eq_some_iff.1 h3
      rw [show len + (i - len) = i by omega] at h4
      exact ⟨_, cs', h4, fun _ => h5⟩
  by_cases hc : cap = 0
  · subst hc
    have : len = 0 := by omega
    subst this
    exact ⟨_, ⟨[], by simp, by simp, rfl⟩, rfl, conL_cons (by simp only [Con]; exact .inl ⟨rfl, ⟨_, rfl⟩, fun m hm => by cases hm⟩) conL_nil⟩
  have hsp : a = ⟨a.block, a.off, none⟩ ∧ a.block < W.heap.size := by
    obtain ⟨y, cs', h1, _⟩ := hone 0 (by omega)
    obtain ⟨_, h3, h4⟩ := World.cells?_some h1
    have h5 := h4 0 h0
    rw [List.getElem?_eq_getElem (by omega)] at h5
    simpa [Addr.add] using addr_of_cell h5
  obtain ⟨hsp, hlt⟩ := hsp
  have hadd : ∀ i j, (a.add i).add j = ⟨a.block, a.off + (i + j), none⟩ := by
    intro i j
    obtain ⟨b, o, s⟩ := a
    have : s = none := by simpa using hsp
    subst this
    simp only [Addr.add]
    split <;> split <;> simp_all [Nat.add_assoc]
  have key : ∀ k, k ≤ len → ∃ (ls : List (List AV)) (xs : List Value), ls.length = k ∧ (∀ l ∈ ls, A l) ∧ dataL ls.flatten ∧ ConL Env.nil (Old W) W ls.flatten xs ∧ xs.length = k * P.cellsOf e ∧ At W a.block a.off xs := by
    intro k
    induction k with
    | zero => exact fun _ => ⟨[], [], rfl, by simp, rfl, conL_nil, by simp, fun i v hi => by simp at hi⟩
    | succ k ih =>
      intro hk
      obtain ⟨ls, xs, h1, h2, h3, h4, h5, h6⟩ := ih (by omega)
      obtain ⟨y, cs', g1, g2⟩ := hone k (by omega)
      obtain ⟨vs, g3, g4, g5⟩ := hA _ enc W m cs' y (g2 (by omega))
      obtain ⟨_, g6, g7⟩ := World.cells?_some g1
      refine ⟨ls ++ [vs], xs ++ cs', by simp [h1], ?_, ?_, ?_, by simp [h5, g6, Nat.add_mul], ?_⟩
      · intro l hl
        rcases List.mem_append.1 hl with hl | hl
        · exact h2 l hl
        · rw [List.mem_singleton.1 hl]; exact g3
      · simpa using dataL_append.2 ⟨h3, g4⟩
      · simpa using conL_append h4 g5
      · intro i v hi
        rw [List.getElem?_append] at hi
        split at hi
        · exact h6 i v hi
        · have hlt' : i - xs.length < cs'.length := (List.getElem?_eq_some_iff.1 hi).1
          have := g7 (i - xs.length) (by omega)
          rw [hadd] at this
          rw [show k * P.cellsOf e + (i - xs.length) = i by omega] at this
          rw [this, hi]
  obtain ⟨ls, xs, h1, h2, h3, h4, h5, h6⟩ := key len (Nat.le_refl _)
  refine ⟨_, ⟨ls, h2, by omega, rfl⟩, rfl, conL_cons ?_ conL_nil⟩
  simp only [Con]
  exact .inr ⟨a.block, a.off, xs, cap, hlt, by rw [h1, ← hsp], by omega, fun m hm => (by cases hm), h4, h6, h3⟩

/-- One row of values for each of these. -/
def AllA : List (List AV → Prop) → List (List AV) → Prop
  | [], ls => ls = []
  | A :: As, ls => ∃ l ls', ls = l :: ls' ∧ A l ∧ AllA As ls'
def FieldsR (P : Program) (n : Nat) : Nat → List Field → List (List AV → Prop) → Prop
  | o, [], As => o = n ∧ As = []
  | _, _ :: _, [] => False
  | o, f :: fs, A :: As => f.offset = o ∧ Reads P f.type A ∧ FieldsR P n (o + P.cellsOf f.type) fs As
theorem fields_read {P : Program} {H : Type} {enc : TypeId × Value → H} {W : World} {m : Nat} {cs : List Value} : ∀ {fs : List Field} {As : List (List AV → Prop)} {o : Nat}, FieldsR P cs.length o fs As →
    (∀ f ∈ fs, ∃ y, DataW.trod enc P W 0 (fun _ => true) true m f.type ((cs.drop f.offset).take (P.cellsOf f.type)) = some y) →
      ∃ ls, AllA As ls ∧ dataL ls.flatten ∧ ConL Env.nil (Old W) W ls.flatten (cs.drop o)
  | [], As, o, h, _ => by
    obtain ⟨rfl, rfl⟩ := h
    exact ⟨[], rfl, rfl, by simpa using conL_nil⟩
  | f :: fs, [], o, h, _ => h.elim
  | f :: fs, A :: As, o, ⟨e1, hr, h⟩, k => by
    subst e1
    obtain ⟨y, hy⟩ := k f List.mem_cons_self
    obtain ⟨vs, h1, h2, h3⟩ := hr _ enc W m _ y hy
    obtain ⟨ls, g1, g2, g3⟩ := fields_read h fun f' hf => k f' (List.mem_cons_of_mem _ hf)
    refine ⟨vs :: ls, ⟨vs, ls, rfl, h1, g1⟩, by simpa using dataL_append.2 ⟨h2, g2⟩, ?_⟩
    have := conL_append h3 g3
    rw [← List.drop_drop, List.take_append_drop] at this
    simpa using this
theorem Reads.struct {P : Program} {t : TypeId} {fs : Array Field} {As : List (List AV → Prop)} (ht : P.underlying t = some (.struct fs)) (h : FieldsR P (P.cellsOf t) 0 fs.toList As) : Reads P t fun vs => ∃ ls, AllA As ls ∧ vs = ls.flatten := fun H enc W n cs x e => by
  obtain ⟨xs, m, _, _, hl, hn, hf⟩ := DataW.trod_struct ht e
  obtain ⟨ls, h1, h2, h3⟩ := fields_read (cs := cs) (hl ▸ h) fun f hf' => by
    obtain ⟨i, hi, e⟩ := List.mem_iff_getElem.1 hf'
    have := hf i f (by rw [← Array.getElem?_toList]; exact List.getElem?_eq_some_iff.2 ⟨hi, e⟩)
    rw [List.getElem?_eq_getElem (by rw [hn]; simpa using hi)] at this
    exact ⟨_, this⟩
  exact ⟨_, ⟨ls, h1, rfl⟩, h2, by simpa using h3⟩

theorem Reads.array {P : Program} {t e k z : Nat} {A : List AV → Prop} (ht : P.underlying t = some (.array k e)) (hz : P.cellsOf e = z) (hn : P.cellsOf t = k * z) (hA : Reads P e A) :
    Reads P t fun vs => ∃ ls : List (List AV), (∀ l ∈ ls, A l) ∧ ls.length = k ∧ vs = ls.flatten := fun H enc W n cs x h => by
  subst hz
  have key : cs.length = k * P.cellsOf e ∧ ∃ m, ∀ i, i < k → ∃ y, DataW.trod enc P W 0 (fun _ => true) true m e ((cs.drop (i * P.cellsOf e)).take (P.cellsOf e)) = some y := by
    cases n with
    | zero => simp [DataW.trod] at h
    | succ m =>
      unfold DataW.trod at h
      rw [ht] at h
      split at h <;> simp_all
      obtain ⟨_, xs, hp, _⟩ := h
      refine ⟨m, fun i hi => ?_⟩
      have := mapM_some_get hp i i (by simp [hi])
      rw [this]
      have hlen : xs.length = k := by have := mapM_some_length hp; simp only [List.length_range] at this; omega
      rw [List.getElem?_eq_getElem (by omega)]
      exact ⟨_, _, rfl⟩
  obtain ⟨hl, m, hm⟩ := key
  have go : ∀ j, j ≤ k → ∃ ls : List (List AV), ls.length = j ∧ (∀ l ∈ ls, A l) ∧ dataL ls.flatten ∧ ConL Env.nil (Old W) W ls.flatten (cs.take (j * P.cellsOf e)) := by
    intro j
    induction j with
    | zero => exact fun _ => ⟨[], rfl, by simp, rfl, by simpa using conL_nil⟩
    | succ j ih =>
      intro hj
      obtain ⟨ls, h1, h2, h3, h4⟩ := ih (by omega)
      obtain ⟨y, hy⟩ := hm j (by omega)
      obtain ⟨vs, g1, g2, g3⟩ := hA _ enc W m _ y hy
      refine ⟨ls ++ [vs], by simp [h1], ?_, by simpa using dataL_append.2 ⟨h3, g2⟩, ?_⟩
      · intro l hl'
        rcases List.mem_append.1 hl' with hl' | hl'
        · exact h2 l hl'
        · rw [List.mem_singleton.1 hl']; exact g1
      · have := conL_append h4 g3
        rw [Nat.add_mul, Nat.one_mul, List.take_add]
        simpa using this
  obtain ⟨ls, h1, h2, h3, h4⟩ := go k (Nat.le_refl _)
  rw [← hl, List.take_length] at h4
  exact ⟨_, ⟨ls, h2, h1, rfl⟩, h3, h4⟩

/-! ### Arguments -/
def ArgR (P : Program) (t : TypeId) (B : AV → Prop) : Prop :=
  ∀ (H : Type) (enc : TypeId × Value → H) (W : World) (base : Nat) (v : Value) (d : DataW H) (ps : List MemPlace), Value.okWide P W .any base t v → DataW.Trod enc P W 0 (fun _ => true) true t v d ps →
    ∃ a, B a ∧ a.data ∧ Con Env.nil (Old W) W a v
theorem ArgR.mono {P : Program} {t : TypeId} {A B : AV → Prop} (h : ArgR P t A) (k : ∀ v, A v → B v) : ArgR P t B := fun H enc W base v d ps h1 h2 => by
  obtain ⟨a, e1, e2⟩ := h _ enc W base v d ps h1 h2; exact ⟨a, k _ e1, e2⟩
theorem ArgR.int {P : Program} {t : TypeId} {k : IntKind} (ht : P.underlying t = some (.int k)) : ArgR P t fun a => ∃ n, (k.min ≤ n ∧ n ≤ k.max) ∧ a = .int k n := fun H enc W base v d ps ho ⟨m, h⟩ => by
  obtain ⟨vs, ⟨n, hn, rfl⟩, _, h3⟩ := Reads.int ht _ enc W m _ _ h
  obtain ⟨y, ys, e1, e2, e3⟩ := conL_inv h3
  simp only [Con] at e2; subst e2
  cases v <;> simp [Value.cells] at e1
  case int => obtain ⟨⟨rfl, rfl⟩, _⟩ := e1; exact ⟨_, ⟨_, hn, rfl⟩, rfl, by simp [Con]⟩
  case agg => simp [Value.okWide, ht, Cell.okWide, Cell.ok] at ho
theorem ArgR.bool {P : Program} {t : TypeId} (ht : P.underlying t = some .bool) : ArgR P t fun a => ∃ b, a = .bool b := fun H enc W base v d ps ho ⟨m, h⟩ => by
  obtain ⟨vs, ⟨n, rfl⟩, _, h3⟩ := Reads.bool ht _ enc W m _ _ h
  obtain ⟨y, ys, e1, e2, e3⟩ := conL_inv h3
  simp only [Con] at e2; subst e2
  cases v <;> simp [Value.cells] at e1
  case bool => exact ⟨.bool n, ⟨n, rfl⟩, rfl, by simp [Con, e1.1]⟩
  case agg => simp [Value.okWide, ht, Cell.okWide, Cell.ok] at ho
theorem ArgR.slice {P : Program} {t e : Nat} {B : AV → Prop} (ht : P.underlying t = some (.slice e)) (hr : Reads P t fun vs => ∃ a, B a ∧ vs = [a]) : ArgR P t B := fun H enc W base v d ps ho ⟨m, h⟩ => by
  obtain ⟨vs, ⟨a, hb, rfl⟩, h2, h3⟩ := hr _ enc W m _ _ h
  obtain ⟨y, ys, e1, e2, e3⟩ := conL_inv h3
  simp only [ConL] at e3; subst e3
  obtain ⟨a', len, cap, rfl⟩ := Go.WideShapes.okWide_slice ht ho
  simp [Value.cells] at e1
  subst e1
  exact ⟨a, hb, (dataL_cons.1 h2).1, e2⟩
theorem ArgR.struct {P : Program} {t : TypeId} {fs : Array Field} {A : List AV → Prop} (ht : P.underlying t = some (.struct fs)) (hr : Reads P t A) : ArgR P t fun a => ∃ vs, A vs ∧ a = .agg vs := fun H enc W base v d ps ho ⟨m, h⟩ => by
  obtain ⟨vs, hA, h2, h3⟩ := hr _ enc W m _ _ h
  obtain ⟨cs, rfl, _⟩ := Go.WideShapes.okWide_struct ht ho
  refine ⟨_, ⟨vs, hA, rfl⟩, by simpa [AV.data, AV.isd] using h2, ?_⟩
  simp only [Con]
  exact ⟨_, h3, by simp [Value.cells]⟩
theorem ArgR.array {P : Program} {t : TypeId} {k e : Nat} {A : List AV → Prop} (ht : P.underlying t = some (.array k e)) (hr : Reads P t A) : ArgR P t fun a => ∃ vs, A vs ∧ a = .agg vs := fun H enc W base v d ps ho ⟨m, h⟩ => by
  obtain ⟨vs, hA, h2, h3⟩ := hr _ enc W m _ _ h
  have : ∃ cs, v = .agg cs := by
    simp only [Value.okWide, ht] at ho
    obtain ⟨cs, h, _⟩ := ho; exact ⟨cs, h⟩
  obtain ⟨cs, rfl⟩ := this
  refine ⟨_, ⟨vs, hA, rfl⟩, by simpa [AV.data, AV.isd] using h2, ?_⟩
  simp only [Con]
  exact ⟨_, h3, by simp [Value.cells]⟩
def ArgsR (P : Program) : List TypeId → List (AV → Prop) → Prop
  | [], Bs => Bs = []
  | _ :: _, [] => False
  | t :: ts, B :: Bs => ArgR P t B ∧ ArgsR P ts Bs
def AllB : List (AV → Prop) → List AV → Prop
  | [], vs => vs = []
  | B :: Bs, vs => ∃ v vs', vs = v :: vs' ∧ B v ∧ AllB Bs vs'
theorem args_read {P : Program} {H : Type} {enc : TypeId × Value → H} {W : World} {base : Nat} : ∀ {ts : List TypeId} {Bs : List (AV → Prop)} {vs : List Value} {ds : List (DataW H)} {ps : List MemPlace}, ArgsR P ts Bs →
    (∀ (j : Nat) t v, ts[j]? = some t → vs[j]? = some v → Value.okWide P W .any base t v) → DataW.TrodAll enc P W 0 (fun _ => true) true ts vs ds ps → ∃ avs, AllB Bs avs ∧ ConL Env.nil (Old W) W avs vs
  | [], Bs, [], [], ps, hB, _, _ => by cases hB; exact ⟨[], rfl, conL_nil⟩
  | t :: ts, B :: Bs, v :: vs, d :: ds, ps, hB, ho, h => by
    obtain ⟨p, q, h1, h2, rfl⟩ := h
    obtain ⟨a, e1, _, e2⟩ := hB.1 _ enc W base v d p (ho 0 t v rfl rfl) h1
    obtain ⟨avs, g1, g2⟩ := args_read hB.2 (fun j t' v' hj hv => ho (j + 1) t' v' (by simpa using hj) (by simpa using hv)) h2
    exact ⟨a :: avs, ⟨a, avs, rfl, e1, g1⟩, conL_cons e2 g2⟩
  | [], _, _ :: _, _, _, _, _, h | [], _, [], _ :: _, _, _, _, h => by simp [DataW.TrodAll] at h
  | _ :: _, [], _, _, _, hB, _, _ => hB.elim
  | _ :: _, _ :: _, [], _, _, _, _, h | _ :: _, _ :: _, _ :: _, [], _, _, _, h => by simp [DataW.TrodAll] at h
theorem trodAll_stays {P : Program} {H : Type} {enc : TypeId × Value → H} (hl : laidOutB P = true) {W W' : World} (hb : Below W.heap.size W W') : ∀ {ts : List TypeId} {vs : List Value} {ds : List (DataW H)} {ps : List MemPlace},
    (∀ t ∈ ts, P.readableRec t = true ∧ t < P.types.size) → DataW.TrodAll enc P W 0 (fun _ => true) true ts vs ds ps → DataW.TrodAll enc P W' 0 (fun b => decide (b < W.heap.size)) true ts vs ds ps
  | [], [], [], ps, _, h => h
  | t :: ts, v :: vs, d :: ds, ps, hr, h => by
    have hlt := DataW.TrodAll.lt h
    obtain ⟨p, q, h1, h2, rfl⟩ := h
    exact ⟨p, q, Below.trod hl (hr t List.mem_cons_self).1 (hr t List.mem_cons_self).2 h1 hb fun x hx => hlt x (List.mem_append_left _ hx), trodAll_stays hl hb (fun t ht => hr t (List.mem_cons_of_mem _ ht)) h2, rfl⟩
  | [], [], _ :: _, _, _, h | [], _ :: _, _, _, _, h | _ :: _, [], _, _, _, h | _ :: _, _ :: _, [], _, _, h => by simp [DataW.TrodAll] at h

theorem trodL {P : Program} {H : Type} {enc : TypeId × Value → H} {W : World} {base : Nat} {sp : Nat → Bool} {held : Bool} : ∀ {ts : List TypeId} {vs : List Value} {ds : List (DataW H)} {ps : List MemPlace}, DataW.TrodAll enc P W base sp held ts vs ds ps → ds.length = ts.length
  | [], [], [], _, _ => rfl
  | _ :: _, _ :: _, _ :: _, _, ⟨_, _, _, h, _⟩ => by simp [trodL h]
  | [], [], _ :: _, _, h | [], _ :: _, _, _, h | _ :: _, [], _, _, h | _ :: _, _ :: _, [], _, h => by simp [DataW.TrodAll] at h
/-- From a contract to the row. -/
theorem handed {C : Checked} {os : Os} {H : Type} {enc : TypeId × Value → H} {f : FuncId} {fn : Func} {s : ChangeSpec} {fresh handsOn : Bool} {tb : TypeId}
    (own : ownKnob C.prog.godebug = none) (started : os.Started) (noInit : C.prog.inits.idxOf? f = none) (hfn : C.prog.funcs[f]? = some fn)
    (witness : ∃ (w : World) (tape : Tape) (i : Input), w.os = os ∧ (w.forCall tape i).Shaped C.prog ∧ i.vars = [] ∧ Input.okWide C.prog (w.forCall tape i) .any w.heap.size f i ∧
      s.pre6 enc C.prog fn [] false (w.forCall tape i).memory i.args ∧ ({} : Assume).holds C.prog (lone (Frame.enter C.prog f i.args .normal) [] (w.forCall tape i)))
    (hv : s.vars = []) (hs : ∀ ds : List (DataW H), ds.length = fn.params.size → s.fn H ds = { results := [.lit (.bool true)], args := ds })
    (hl : laidOutB C.prog = true) (hp : (fn.params.toList.all fun t => C.prog.readableRec t && decide (t < C.prog.types.size)) = true) (hres : fn.resultTypes = #[tb]) (hb : C.prog.underlying tb = some .bool)
    {Bs : List (AV → Prop)} (hB : ArgsR C.prog fn.params.toList Bs) (hpure : ∀ vs, AllB Bs vs → Pure C.prog f vs (.bool true)) :
    ReturnsInHanded {} C os f .any (s.pre6 enc C.prog fn [] false) (s.post enc C.prog fn false fresh handsOn false) := by
  refine returnsInHanded_of_change own started noInit hfn witness ?_
  intro W base args ds gs before hval hW _ _
  have hW' := hW
  obtain ⟨p, q, hA, hV, rfl, _, _⟩ := hW
  obtain ⟨avs, h1, h2⟩ := args_read hB (fun j t v hj hv => hval j t v (by simpa using hj) (by simpa using hv)) hA
  rw [hv] at hV
  obtain ⟨rfl, rfl⟩ := trodVars_none hV
  refine (hpure avs h1 (Old W) W args.toList (fun _ h => h) h2).mono ?_
  rintro e W' ⟨x, Φ', rfl, h3, h4, _⟩
  simp only [Con] at h3; subst h3
  refine ⟨_, rfl, ds, [], _, [], p, [], hW', ?_, ?_, ?_, ⟨h4.os, h4.output, fun i hi => ?_⟩, fun h => by cases h⟩
  · rw [hs _ (by simpa using trodL hA), hres]
    exact trodAll_mk1 (shut_bool hb _)
  · rw [hs _ (by simpa using trodL hA), List.append_nil]
    exact trodAll_stays hl h4 (fun t ht => by simpa using List.all_eq_true.1 hp t ht) hA
  · rw [hs _ (by simpa using trodL hA), hv]
    rfl
  · have := h4.block i hi
    rw [this]
    cases h : W.heap[i]? with
    | none => simp
    | some o => cases o <;> simp
end Go.AE
end

section
/- What the program says of its types (written by a program of mine, off the table). -/
namespace Go.Proofs.Ythoodfiacfmhgaa
open Go.AE
set_option maxRecDepth 100000
instance : TyVar Try.prog 1 false 1 := ⟨fun _ => by kernel_rfl, fun _ => by kernel_rfl, by simp⟩
instance : TyZero Try.prog 1 [.nilf] := ⟨⟨.nilFunc, fun _ => by kernel_rfl, rfl⟩⟩
instance : TyVar Try.prog 2 false 1 := ⟨fun _ => by kernel_rfl, fun _ => by kernel_rfl, by simp⟩
instance : TyZero Try.prog 2 [.int .i64 0] := ⟨⟨.int .i64 0, fun _ => by kernel_rfl, rfl⟩⟩
instance : TyInt Try.prog 2 .i64 := ⟨Try.underlying2⟩
instance : TyVar Try.prog 3 false 1 := ⟨fun _ => by kernel_rfl, fun _ => by kernel_rfl, by simp⟩
instance : TyZero Try.prog 3 [.int .i64 0] := ⟨⟨.int .i64 0, fun _ => by kernel_rfl, rfl⟩⟩
instance : TyInt Try.prog 3 .i64 := ⟨Try.underlying3⟩
instance : TyVar Try.prog 4 false 1 := ⟨fun _ => by kernel_rfl, fun _ => by kernel_rfl, by simp⟩
instance : TyZero Try.prog 4 [.bool false] := ⟨⟨.bool false, fun _ => by kernel_rfl, rfl⟩⟩
instance : TyVar Try.prog 5 false 1 := ⟨fun _ => by kernel_rfl, fun _ => by kernel_rfl, by simp⟩
instance : TyZero Try.prog 5 [.int .u8 0] := ⟨⟨.int .u8 0, fun _ => by kernel_rfl, rfl⟩⟩
instance : TyInt Try.prog 5 .u8 := ⟨Try.underlying5⟩
instance : TyVar Try.prog 21 false 1 := ⟨fun _ => by kernel_rfl, fun _ => by kernel_rfl, by simp⟩
instance : TyZero Try.prog 21 [.int .i32 0] := ⟨⟨.int .i32 0, fun _ => by kernel_rfl, rfl⟩⟩
instance : TyInt Try.prog 21 .i32 := ⟨Try.underlying21⟩
instance : TyVar Try.prog 22 false 1 := ⟨fun _ => by kernel_rfl, fun _ => by kernel_rfl, by simp⟩
instance : TyZero Try.prog 22 [.nils] := ⟨⟨.slice none 0 0, fun _ => by kernel_rfl, rfl⟩⟩
instance : TySl Try.prog 22 3 1 := ⟨Try.underlying22, fun _ => by kernel_rfl⟩
instance : TyVar Try.prog 23 true 2 := ⟨fun _ => by kernel_rfl, fun _ => by kernel_rfl, by simp⟩
instance : TyZero Try.prog 23 [.int .i64 0, .nils] := ⟨⟨.agg #[.int .i64 0, .slice none 0 0], fun _ => by kernel_rfl, rfl⟩⟩
instance : TyField Try.prog 23 0 0 := ⟨fun _ _ _ => by kernel_rfl⟩
instance : TyPart Try.prog 23 0 0 3 := ⟨fun _ _ => by kernel_rfl⟩
instance : TyField Try.prog 23 1 1 := ⟨fun _ _ _ => by kernel_rfl⟩
instance : TyPart Try.prog 23 1 1 22 := ⟨fun _ _ => by kernel_rfl⟩
instance : TyBuild Try.prog 23 [.int .i64 0, .nils] (fun i => ([(0, 1), (1, 1)] : List (Nat × Nat))[i]?) := TyBuild.of_struct (zv := .agg #[.int .i64 0, .slice none 0 0]) (fun _ => by kernel_rfl) rfl Try.underlying23 (fun _ => by kernel_rfl)
instance : TyVar Try.prog 24 true 2 := ⟨fun _ => by kernel_rfl, fun _ => by kernel_rfl, by simp⟩
instance : TyZero Try.prog 24 [.int .i64 0, .nils] := ⟨⟨.agg #[.int .i64 0, .slice none 0 0], fun _ => by kernel_rfl, rfl⟩⟩
instance : TyField Try.prog 24 0 0 := ⟨fun _ _ _ => by kernel_rfl⟩
instance : TyPart Try.prog 24 0 0 3 := ⟨fun _ _ => by kernel_rfl⟩
instance : TyField Try.prog 24 1 1 := ⟨fun _ _ _ => by kernel_rfl⟩
instance : TyPart Try.prog 24 1 1 22 := ⟨fun _ _ => by kernel_rfl⟩
instance : TyBuild Try.prog 24 [.int .i64 0, .nils] (fun i => ([(0, 1), (1, 1)] : List (Nat × Nat))[i]?) := TyBuild.of_struct (zv := .agg #[.int .i64 0, .slice none 0 0]) (fun _ => by kernel_rfl) rfl Try.underlying24 (fun _ => by kernel_rfl)
instance : TyVar Try.prog 25 false 1 := ⟨fun _ => by kernel_rfl, fun _ => by kernel_rfl, by simp⟩
instance : TyZero Try.prog 25 [.nilf] := ⟨⟨.nilFunc, fun _ => by kernel_rfl, rfl⟩⟩
instance : TyVar Try.prog 26 false 1 := ⟨fun _ => by kernel_rfl, fun _ => by kernel_rfl, by simp⟩
instance : TyZero Try.prog 26 [.nilf] := ⟨⟨.nilFunc, fun _ => by kernel_rfl, rfl⟩⟩
instance : TyVar Try.prog 27 false 1 := ⟨fun _ => by kernel_rfl, fun _ => by kernel_rfl, by simp⟩
instance : TyZero Try.prog 27 [.int .i64 0] := ⟨⟨.int .i64 0, fun _ => by kernel_rfl, rfl⟩⟩
instance : TyInt Try.prog 27 .i64 := ⟨Try.underlying27⟩
instance : TyVar Try.prog 29 false 1 := ⟨fun _ => by kernel_rfl, fun _ => by kernel_rfl, by simp⟩
instance : TyZero Try.prog 29 [.nilf] := ⟨⟨.nilFunc, fun _ => by kernel_rfl, rfl⟩⟩
instance : TyVar Try.prog 31 false 1 := ⟨fun _ => by kernel_rfl, fun _ => by kernel_rfl, by simp⟩
instance : TyZero Try.prog 31 [.nilf] := ⟨⟨.nilFunc, fun _ => by kernel_rfl, rfl⟩⟩
instance : TyVar Try.prog 32 false 1 := ⟨fun _ => by kernel_rfl, fun _ => by kernel_rfl, by simp⟩
instance : TyZero Try.prog 32 [.nilf] := ⟨⟨.nilFunc, fun _ => by kernel_rfl, rfl⟩⟩
instance : TyVar Try.prog 33 false 1 := ⟨fun _ => by kernel_rfl, fun _ => by kernel_rfl, by simp⟩
instance : TyZero Try.prog 33 [.nilf] := ⟨⟨.nilFunc, fun _ => by kernel_rfl, rfl⟩⟩
instance : TyVar Try.prog 34 false 1 := ⟨fun _ => by kernel_rfl, fun _ => by kernel_rfl, by simp⟩
instance : TyZero Try.prog 34 [.nilf] := ⟨⟨.nilFunc, fun _ => by kernel_rfl, rfl⟩⟩
instance : TyVar Try.prog 35 false 1 := ⟨fun _ => by kernel_rfl, fun _ => by kernel_rfl, by simp⟩
instance : TyZero Try.prog 35 [.nilf] := ⟨⟨.nilFunc, fun _ => by kernel_rfl, rfl⟩⟩
instance : TyVar Try.prog 37 false 1 := ⟨fun _ => by kernel_rfl, fun _ => by kernel_rfl, by simp⟩
instance : TyZero Try.prog 37 [.nilf] := ⟨⟨.nilFunc, fun _ => by kernel_rfl, rfl⟩⟩
instance : TyVar Try.prog 38 false 1 := ⟨fun _ => by kernel_rfl, fun _ => by kernel_rfl, by simp⟩
instance : TyZero Try.prog 38 [.nilf] := ⟨⟨.nilFunc, fun _ => by kernel_rfl, rfl⟩⟩
instance : TyVar Try.prog 39 false 1 := ⟨fun _ => by kernel_rfl, fun _ => by kernel_rfl, by simp⟩
instance : TyZero Try.prog 39 [.nilf] := ⟨⟨.nilFunc, fun _ => by kernel_rfl, rfl⟩⟩
instance : TyVar Try.prog 40 false 1 := ⟨fun _ => by kernel_rfl, fun _ => by kernel_rfl, by simp⟩
instance : TyZero Try.prog 40 [.nilf] := ⟨⟨.nilFunc, fun _ => by kernel_rfl, rfl⟩⟩
instance : TyVar Try.prog 41 false 1 := ⟨fun _ => by kernel_rfl, fun _ => by kernel_rfl, by simp⟩
instance : TyZero Try.prog 41 [.nilf] := ⟨⟨.nilFunc, fun _ => by kernel_rfl, rfl⟩⟩
instance : TyVar Try.prog 42 false 1 := ⟨fun _ => by kernel_rfl, fun _ => by kernel_rfl, by simp⟩
instance : TyZero Try.prog 42 [.nilf] := ⟨⟨.nilFunc, fun _ => by kernel_rfl, rfl⟩⟩
instance : TyVar Try.prog 43 false 1 := ⟨fun _ => by kernel_rfl, fun _ => by kernel_rfl, by simp⟩
instance : TyZero Try.prog 43 [.nilf] := ⟨⟨.nilFunc, fun _ => by kernel_rfl, rfl⟩⟩
instance : TyVar Try.prog 44 false 1 := ⟨fun _ => by kernel_rfl, fun _ => by kernel_rfl, by simp⟩
instance : TyZero Try.prog 44 [.nilf] := ⟨⟨.nilFunc, fun _ => by kernel_rfl, rfl⟩⟩
instance : TyVar Try.prog 46 false 1 := ⟨fun _ => by kernel_rfl, fun _ => by kernel_rfl, by simp⟩
instance : TyZero Try.prog 46 [.nilf] := ⟨⟨.nilFunc, fun _ => by kernel_rfl, rfl⟩⟩
instance : TyVar Try.prog 47 false 1 := ⟨fun _ => by kernel_rfl, fun _ => by kernel_rfl, by simp⟩
instance : TyZero Try.prog 47 [.nilf] := ⟨⟨.nilFunc, fun _ => by kernel_rfl, rfl⟩⟩
instance : TyVar Try.prog 48 false 1 := ⟨fun _ => by kernel_rfl, fun _ => by kernel_rfl, by simp⟩
instance : TyZero Try.prog 48 [.nilf] := ⟨⟨.nilFunc, fun _ => by kernel_rfl, rfl⟩⟩
instance : TyVar Try.prog 50 false 1 := ⟨fun _ => by kernel_rfl, fun _ => by kernel_rfl, by simp⟩
instance : TyZero Try.prog 50 [.nilf] := ⟨⟨.nilFunc, fun _ => by kernel_rfl, rfl⟩⟩
instance : TyVar Try.prog 51 false 1 := ⟨fun _ => by kernel_rfl, fun _ => by kernel_rfl, by simp⟩
instance : TyZero Try.prog 51 [.nilf] := ⟨⟨.nilFunc, fun _ => by kernel_rfl, rfl⟩⟩
instance : TyVar Try.prog 52 false 1 := ⟨fun _ => by kernel_rfl, fun _ => by kernel_rfl, by simp⟩
instance : TyZero Try.prog 52 [.nilf] := ⟨⟨.nilFunc, fun _ => by kernel_rfl, rfl⟩⟩
instance : TyVar Try.prog 53 false 1 := ⟨fun _ => by kernel_rfl, fun _ => by kernel_rfl, by simp⟩
instance : TyZero Try.prog 53 [.nils] := ⟨⟨.slice none 0 0, fun _ => by kernel_rfl, rfl⟩⟩
instance : TySl Try.prog 53 5 1 := ⟨Try.underlying53, fun _ => by kernel_rfl⟩
instance : TyVar Try.prog 54 false 1 := ⟨fun _ => by kernel_rfl, fun _ => by kernel_rfl, by simp⟩
instance : TyZero Try.prog 54 [.nilf] := ⟨⟨.nilFunc, fun _ => by kernel_rfl, rfl⟩⟩
instance : TyVar Try.prog 56 false 1 := ⟨fun _ => by kernel_rfl, fun _ => by kernel_rfl, by simp⟩
instance : TyZero Try.prog 56 [.nilf] := ⟨⟨.nilFunc, fun _ => by kernel_rfl, rfl⟩⟩
instance : TyVar Try.prog 57 false 1 := ⟨fun _ => by kernel_rfl, fun _ => by kernel_rfl, by simp⟩
instance : TyZero Try.prog 57 [.nilf] := ⟨⟨.nilFunc, fun _ => by kernel_rfl, rfl⟩⟩
instance : TyVar Try.prog 58 false 1 := ⟨fun _ => by kernel_rfl, fun _ => by kernel_rfl, by simp⟩
instance : TyZero Try.prog 58 [.nilf] := ⟨⟨.nilFunc, fun _ => by kernel_rfl, rfl⟩⟩
instance : TyVar Try.prog 59 false 1 := ⟨fun _ => by kernel_rfl, fun _ => by kernel_rfl, by simp⟩
instance : TyZero Try.prog 59 [.nilf] := ⟨⟨.nilFunc, fun _ => by kernel_rfl, rfl⟩⟩
instance : TyVar Try.prog 60 false 1 := ⟨fun _ => by kernel_rfl, fun _ => by kernel_rfl, by simp⟩
instance : TyZero Try.prog 60 [.nilf] := ⟨⟨.nilFunc, fun _ => by kernel_rfl, rfl⟩⟩
instance : TyVar Try.prog 61 false 1 := ⟨fun _ => by kernel_rfl, fun _ => by kernel_rfl, by simp⟩
instance : TyZero Try.prog 61 [.nilf] := ⟨⟨.nilFunc, fun _ => by kernel_rfl, rfl⟩⟩
instance : TyVar Try.prog 62 false 1 := ⟨fun _ => by kernel_rfl, fun _ => by kernel_rfl, by simp⟩
instance : TyZero Try.prog 62 [.nilf] := ⟨⟨.nilFunc, fun _ => by kernel_rfl, rfl⟩⟩
instance : TyVar Try.prog 63 false 1 := ⟨fun _ => by kernel_rfl, fun _ => by kernel_rfl, by simp⟩
instance : TyZero Try.prog 63 [.nilf] := ⟨⟨.nilFunc, fun _ => by kernel_rfl, rfl⟩⟩
instance : TyVar Try.prog 64 false 1 := ⟨fun _ => by kernel_rfl, fun _ => by kernel_rfl, by simp⟩
instance : TyZero Try.prog 64 [.nilf] := ⟨⟨.nilFunc, fun _ => by kernel_rfl, rfl⟩⟩
instance : TyVar Try.prog 65 false 1 := ⟨fun _ => by kernel_rfl, fun _ => by kernel_rfl, by simp⟩
instance : TyZero Try.prog 65 [.nils] := ⟨⟨.slice none 0 0, fun _ => by kernel_rfl, rfl⟩⟩
instance : TySl Try.prog 65 24 2 := ⟨Try.underlying65, fun _ => by kernel_rfl⟩
instance : TyVar Try.prog 66 false 1 := ⟨fun _ => by kernel_rfl, fun _ => by kernel_rfl, by simp⟩
instance : TyZero Try.prog 66 [.nilf] := ⟨⟨.nilFunc, fun _ => by kernel_rfl, rfl⟩⟩
instance : TyVar Try.prog 67 false 1 := ⟨fun _ => by kernel_rfl, fun _ => by kernel_rfl, by simp⟩
instance : TyZero Try.prog 67 [.nilf] := ⟨⟨.nilFunc, fun _ => by kernel_rfl, rfl⟩⟩
instance : TyVar Try.prog 68 true 4 := ⟨fun _ => by kernel_rfl, fun _ => by kernel_rfl, by simp⟩
instance : TyZero Try.prog 68 [.int .i64 0, .int .i64 0, .int .i64 0, .int .i64 0] := ⟨⟨.agg #[.int .i64 0, .int .i64 0, .int .i64 0, .int .i64 0], fun _ => by kernel_rfl, rfl⟩⟩
instance ar68 : TyAr Try.prog 68 4 3 1 := ⟨Try.underlying68, fun _ => by kernel_rfl⟩
instance : TyBuild Try.prog 68 [.int .i64 0, .int .i64 0, .int .i64 0, .int .i64 0] (fun i => some (i * 1, 1)) := TyBuild.of_array (zv := .agg #[.int .i64 0, .int .i64 0, .int .i64 0, .int .i64 0]) (fun _ => by kernel_rfl) rfl ar68
instance : TyVar Try.prog 69 false 1 := ⟨fun _ => by kernel_rfl, fun _ => by kernel_rfl, by simp⟩
instance : TyZero Try.prog 69 [.nilf] := ⟨⟨.nilFunc, fun _ => by kernel_rfl, rfl⟩⟩
instance : TyVar Try.prog 70 false 1 := ⟨fun _ => by kernel_rfl, fun _ => by kernel_rfl, by simp⟩
instance : TyZero Try.prog 70 [.nilf] := ⟨⟨.nilFunc, fun _ => by kernel_rfl, rfl⟩⟩
instance : TyVar Try.prog 71 false 1 := ⟨fun _ => by kernel_rfl, fun _ => by kernel_rfl, by simp⟩
instance : TyZero Try.prog 71 [.nilf] := ⟨⟨.nilFunc, fun _ => by kernel_rfl, rfl⟩⟩
instance : TyVar Try.prog 72 false 1 := ⟨fun _ => by kernel_rfl, fun _ => by kernel_rfl, by simp⟩
instance : TyZero Try.prog 72 [.nilp] := ⟨⟨.pointer none, fun _ => by kernel_rfl, rfl⟩⟩
instance : TyVar Try.prog 74 false 1 := ⟨fun _ => by kernel_rfl, fun _ => by kernel_rfl, by simp⟩
instance : TyZero Try.prog 74 [.nilf] := ⟨⟨.nilFunc, fun _ => by kernel_rfl, rfl⟩⟩
instance : TyVar Try.prog 75 false 1 := ⟨fun _ => by kernel_rfl, fun _ => by kernel_rfl, by simp⟩
instance : TyZero Try.prog 75 [.nilf] := ⟨⟨.nilFunc, fun _ => by kernel_rfl, rfl⟩⟩
instance : TyVar Try.prog 76 true 2 := ⟨fun _ => by kernel_rfl, fun _ => by kernel_rfl, by simp⟩
instance : TyZero Try.prog 76 [.int .i64 0, .nils] := ⟨⟨.agg #[.int .i64 0, .slice none 0 0], fun _ => by kernel_rfl, rfl⟩⟩
instance : TyField Try.prog 76 0 0 := ⟨fun _ _ _ => by kernel_rfl⟩
instance : TyPart Try.prog 76 0 0 24 := ⟨fun _ _ => by kernel_rfl⟩
instance : TyBuild Try.prog 76 [.int .i64 0, .nils] (fun i => ([(0, 2)] : List (Nat × Nat))[i]?) := TyBuild.of_struct (zv := .agg #[.int .i64 0, .slice none 0 0]) (fun _ => by kernel_rfl) rfl Try.underlying76 (fun _ => by kernel_rfl)
instance : TyVar Try.prog 77 true 2 := ⟨fun _ => by kernel_rfl, fun _ => by kernel_rfl, by simp⟩
instance : TyZero Try.prog 77 [.int .i64 0, .nils] := ⟨⟨.agg #[.int .i64 0, .slice none 0 0], fun _ => by kernel_rfl, rfl⟩⟩
instance : TyField Try.prog 77 0 0 := ⟨fun _ _ _ => by kernel_rfl⟩
instance : TyPart Try.prog 77 0 0 24 := ⟨fun _ _ => by kernel_rfl⟩
instance : TyBuild Try.prog 77 [.int .i64 0, .nils] (fun i => ([(0, 2)] : List (Nat × Nat))[i]?) := TyBuild.of_struct (zv := .agg #[.int .i64 0, .slice none 0 0]) (fun _ => by kernel_rfl) rfl Try.underlying77 (fun _ => by kernel_rfl)
instance : TyVar Try.prog 78 false 1 := ⟨fun _ => by kernel_rfl, fun _ => by kernel_rfl, by simp⟩
instance : TyZero Try.prog 78 [.nilf] := ⟨⟨.nilFunc, fun _ => by kernel_rfl, rfl⟩⟩
instance : TyVar Try.prog 79 false 1 := ⟨fun _ => by kernel_rfl, fun _ => by kernel_rfl, by simp⟩
instance : TyZero Try.prog 79 [.nilf] := ⟨⟨.nilFunc, fun _ => by kernel_rfl, rfl⟩⟩
instance : TyVar Try.prog 80 false 1 := ⟨fun _ => by kernel_rfl, fun _ => by kernel_rfl, by simp⟩
instance : TyZero Try.prog 80 [.nilf] := ⟨⟨.nilFunc, fun _ => by kernel_rfl, rfl⟩⟩
instance : TyVar Try.prog 81 false 1 := ⟨fun _ => by kernel_rfl, fun _ => by kernel_rfl, by simp⟩
instance : TyZero Try.prog 81 [.nilf] := ⟨⟨.nilFunc, fun _ => by kernel_rfl, rfl⟩⟩
instance : TyVar Try.prog 82 false 1 := ⟨fun _ => by kernel_rfl, fun _ => by kernel_rfl, by simp⟩
instance : TyZero Try.prog 82 [.nilf] := ⟨⟨.nilFunc, fun _ => by kernel_rfl, rfl⟩⟩
instance : TyVar Try.prog 83 true 8 := ⟨fun _ => by kernel_rfl, fun _ => by kernel_rfl, by simp⟩
instance : TyZero Try.prog 83 [.int .i64 0, .int .i64 0, .int .i64 0, .int .i64 0, .int .i64 0, .int .i64 0, .int .i64 0, .int .i64 0] := ⟨⟨.agg #[.int .i64 0, .int .i64 0, .int .i64 0, .int .i64 0, .int .i64 0, .int .i64 0, .int .i64 0, .int .i64 0], fun _ => by kernel_rfl, rfl⟩⟩
instance ar83 : TyAr Try.prog 83 8 3 1 := ⟨Try.underlying83, fun _ => by kernel_rfl⟩
instance : TyBuild Try.prog 83 [.int .i64 0, .int .i64 0, .int .i64 0, .int .i64 0, .int .i64 0, .int .i64 0, .int .i64 0, .int .i64 0] (fun i => some (i * 1, 1)) := TyBuild.of_array (zv := .agg #[.int .i64 0, .int .i64 0, .int .i64 0, .int .i64 0, .int .i64 0, .int .i64 0, .int .i64 0, .int .i64 0]) (fun _ => by kernel_rfl) rfl ar83
instance : TyVar Try.prog 84 true 8 := ⟨fun _ => by kernel_rfl, fun _ => by kernel_rfl, by simp⟩
instance : TyZero Try.prog 84 [.int .i64 0, .int .i64 0, .int .i64 0, .int .i64 0, .int .i64 0, .int .i64 0, .int .i64 0, .int .i64 0] := ⟨⟨.agg #[.int .i64 0, .int .i64 0, .int .i64 0, .int .i64 0, .int .i64 0, .int .i64 0, .int .i64 0, .int .i64 0], fun _ => by kernel_rfl, rfl⟩⟩
instance ar84 : TyAr Try.prog 84 8 3 1 := ⟨Try.underlying84, fun _ => by kernel_rfl⟩
instance : TyBuild Try.prog 84 [.int .i64 0, .int .i64 0, .int .i64 0, .int .i64 0, .int .i64 0, .int .i64 0, .int .i64 0, .int .i64 0] (fun i => some (i * 1, 1)) := TyBuild.of_array (zv := .agg #[.int .i64 0, .int .i64 0, .int .i64 0, .int .i64 0, .int .i64 0, .int .i64 0, .int .i64 0, .int .i64 0]) (fun _ => by kernel_rfl) rfl ar84
instance : TyVar Try.prog 85 false 1 := ⟨fun _ => by kernel_rfl, fun _ => by kernel_rfl, by simp⟩
instance : TyZero Try.prog 85 [.nilf] := ⟨⟨.nilFunc, fun _ => by kernel_rfl, rfl⟩⟩
instance : TyVar Try.prog 86 false 1 := ⟨fun _ => by kernel_rfl, fun _ => by kernel_rfl, by simp⟩
instance : TyZero Try.prog 86 [.nilf] := ⟨⟨.nilFunc, fun _ => by kernel_rfl, rfl⟩⟩
instance : TyVar Try.prog 87 false 1 := ⟨fun _ => by kernel_rfl, fun _ => by kernel_rfl, by simp⟩
instance : TyZero Try.prog 87 [.nils] := ⟨⟨.slice none 0 0, fun _ => by kernel_rfl, rfl⟩⟩
instance : TySl Try.prog 87 22 1 := ⟨Try.underlying87, fun _ => by kernel_rfl⟩
instance : TyVar Try.prog 88 false 1 := ⟨fun _ => by kernel_rfl, fun _ => by kernel_rfl, by simp⟩
instance : TyZero Try.prog 88 [.nilf] := ⟨⟨.nilFunc, fun _ => by kernel_rfl, rfl⟩⟩
instance : TyVar Try.prog 89 false 1 := ⟨fun _ => by kernel_rfl, fun _ => by kernel_rfl, by simp⟩
instance : TyZero Try.prog 89 [.nilf] := ⟨⟨.nilFunc, fun _ => by kernel_rfl, rfl⟩⟩
instance : TyVar Try.prog 90 false 1 := ⟨fun _ => by kernel_rfl, fun _ => by kernel_rfl, by simp⟩
instance : TyZero Try.prog 90 [.nilf] := ⟨⟨.nilFunc, fun _ => by kernel_rfl, rfl⟩⟩
instance : TyVar Try.prog 91 false 1 := ⟨fun _ => by kernel_rfl, fun _ => by kernel_rfl, by simp⟩
instance : TyZero Try.prog 91 [.nilf] := ⟨⟨.nilFunc, fun _ => by kernel_rfl, rfl⟩⟩
instance : TyVar Try.prog 92 false 1 := ⟨fun _ => by kernel_rfl, fun _ => by kernel_rfl, by simp⟩
instance : TyZero Try.prog 92 [.nilf] := ⟨⟨.nilFunc, fun _ => by kernel_rfl, rfl⟩⟩
instance : TyVar Try.prog 93 false 1 := ⟨fun _ => by kernel_rfl, fun _ => by kernel_rfl, by simp⟩
instance : TyZero Try.prog 93 [.nilf] := ⟨⟨.nilFunc, fun _ => by kernel_rfl, rfl⟩⟩
instance : TyVar Try.prog 94 false 1 := ⟨fun _ => by kernel_rfl, fun _ => by kernel_rfl, by simp⟩
instance : TyZero Try.prog 94 [.nilf] := ⟨⟨.nilFunc, fun _ => by kernel_rfl, rfl⟩⟩
instance : TyVar Try.prog 95 false 1 := ⟨fun _ => by kernel_rfl, fun _ => by kernel_rfl, by simp⟩
instance : TyZero Try.prog 95 [.nilf] := ⟨⟨.nilFunc, fun _ => by kernel_rfl, rfl⟩⟩
instance : TyVar Try.prog 97 false 1 := ⟨fun _ => by kernel_rfl, fun _ => by kernel_rfl, by simp⟩
instance : TyZero Try.prog 97 [.nilf] := ⟨⟨.nilFunc, fun _ => by kernel_rfl, rfl⟩⟩
instance : TyVar Try.prog 98 false 1 := ⟨fun _ => by kernel_rfl, fun _ => by kernel_rfl, by simp⟩
instance : TyZero Try.prog 98 [.nilf] := ⟨⟨.nilFunc, fun _ => by kernel_rfl, rfl⟩⟩
instance : TyVar Try.prog 100 false 1 := ⟨fun _ => by kernel_rfl, fun _ => by kernel_rfl, by simp⟩
instance : TyZero Try.prog 100 [.nilf] := ⟨⟨.nilFunc, fun _ => by kernel_rfl, rfl⟩⟩
instance : TyVar Try.prog 101 false 1 := ⟨fun _ => by kernel_rfl, fun _ => by kernel_rfl, by simp⟩
instance : TyZero Try.prog 101 [.nilm] := ⟨⟨.map none, fun _ => by kernel_rfl, rfl⟩⟩
instance : TyVar Try.prog 102 false 1 := ⟨fun _ => by kernel_rfl, fun _ => by kernel_rfl, by simp⟩
instance : TyZero Try.prog 102 [.nilf] := ⟨⟨.nilFunc, fun _ => by kernel_rfl, rfl⟩⟩
instance : TyVar Try.prog 103 true 2 := ⟨fun _ => by kernel_rfl, fun _ => by kernel_rfl, by simp⟩
instance : TyZero Try.prog 103 [.int .i64 0, .int .i64 0] := ⟨⟨.agg #[.int .i64 0, .int .i64 0], fun _ => by kernel_rfl, rfl⟩⟩
instance : TyField Try.prog 103 0 0 := ⟨fun _ _ _ => by kernel_rfl⟩
instance : TyPart Try.prog 103 0 0 3 := ⟨fun _ _ => by kernel_rfl⟩
instance : TyField Try.prog 103 1 1 := ⟨fun _ _ _ => by kernel_rfl⟩
instance : TyPart Try.prog 103 1 1 3 := ⟨fun _ _ => by kernel_rfl⟩
instance : TyBuild Try.prog 103 [.int .i64 0, .int .i64 0] (fun i => ([(0, 1), (1, 1)] : List (Nat × Nat))[i]?) := TyBuild.of_struct (zv := .agg #[.int .i64 0, .int .i64 0]) (fun _ => by kernel_rfl) rfl Try.underlying103 (fun _ => by kernel_rfl)
instance : TyVar Try.prog 104 true 2 := ⟨fun _ => by kernel_rfl, fun _ => by kernel_rfl, by simp⟩
instance : TyZero Try.prog 104 [.int .i64 0, .int .i64 0] := ⟨⟨.agg #[.int .i64 0, .int .i64 0], fun _ => by kernel_rfl, rfl⟩⟩
instance : TyField Try.prog 104 0 0 := ⟨fun _ _ _ => by kernel_rfl⟩
instance : TyPart Try.prog 104 0 0 3 := ⟨fun _ _ => by kernel_rfl⟩
instance : TyField Try.prog 104 1 1 := ⟨fun _ _ _ => by kernel_rfl⟩
instance : TyPart Try.prog 104 1 1 3 := ⟨fun _ _ => by kernel_rfl⟩
instance : TyBuild Try.prog 104 [.int .i64 0, .int .i64 0] (fun i => ([(0, 1), (1, 1)] : List (Nat × Nat))[i]?) := TyBuild.of_struct (zv := .agg #[.int .i64 0, .int .i64 0]) (fun _ => by kernel_rfl) rfl Try.underlying104 (fun _ => by kernel_rfl)
instance : TyVar Try.prog 105 false 1 := ⟨fun _ => by kernel_rfl, fun _ => by kernel_rfl, by simp⟩
instance : TyZero Try.prog 105 [.nilf] := ⟨⟨.nilFunc, fun _ => by kernel_rfl, rfl⟩⟩
instance : TyVar Try.prog 106 false 1 := ⟨fun _ => by kernel_rfl, fun _ => by kernel_rfl, by simp⟩
instance : TyZero Try.prog 106 [.nilf] := ⟨⟨.nilFunc, fun _ => by kernel_rfl, rfl⟩⟩
instance : TyVar Try.prog 107 false 1 := ⟨fun _ => by kernel_rfl, fun _ => by kernel_rfl, by simp⟩
instance : TyZero Try.prog 107 [.nilf] := ⟨⟨.nilFunc, fun _ => by kernel_rfl, rfl⟩⟩
instance : TyVar Try.prog 108 false 1 := ⟨fun _ => by kernel_rfl, fun _ => by kernel_rfl, by simp⟩
instance : TyZero Try.prog 108 [.nilf] := ⟨⟨.nilFunc, fun _ => by kernel_rfl, rfl⟩⟩
instance : TyVar Try.prog 115 false 1 := ⟨fun _ => by kernel_rfl, fun _ => by kernel_rfl, by simp⟩
instance : TyZero Try.prog 115 [.nilf] := ⟨⟨.nilFunc, fun _ => by kernel_rfl, rfl⟩⟩
instance : TyVar Try.prog 116 false 1 := ⟨fun _ => by kernel_rfl, fun _ => by kernel_rfl, by simp⟩
instance : TyZero Try.prog 116 [.int .u32 0] := ⟨⟨.int .u32 0, fun _ => by kernel_rfl, rfl⟩⟩
instance : TyInt Try.prog 116 .u32 := ⟨Try.underlying116⟩
instance : TyVar Try.prog 120 false 1 := ⟨fun _ => by kernel_rfl, fun _ => by kernel_rfl, by simp⟩
instance : TyZero Try.prog 120 [.nilp] := ⟨⟨.pointer none, fun _ => by kernel_rfl, rfl⟩⟩
instance : TyBool Try.prog 4 := ⟨Try.underlying4⟩
instance : TyElem Try.prog 3 1 := ⟨⟨.int .i64 0, fun _ => by kernel_rfl, rfl⟩, ⟨(Try.prog.info? 3).getD default, fun _ => by kernel_rfl, Nat.le_of_ble_eq_true (by kernel_rfl)⟩⟩
instance : TyMake Try.prog 22 3 [.int .i64 0] := ⟨Try.underlying22, ⟨.int .i64 0, fun _ => by kernel_rfl, rfl, fun _ => by kernel_rfl⟩, ⟨(Try.prog.info? 3).getD default, fun _ => by kernel_rfl, Nat.le_of_ble_eq_true (by kernel_rfl)⟩⟩
instance : TyElem Try.prog 5 1 := ⟨⟨.int .u8 0, fun _ => by kernel_rfl, rfl⟩, ⟨(Try.prog.info? 5).getD default, fun _ => by kernel_rfl, Nat.le_of_ble_eq_true (by kernel_rfl)⟩⟩
instance : TyMake Try.prog 53 5 [.int .u8 0] := ⟨Try.underlying53, ⟨.int .u8 0, fun _ => by kernel_rfl, rfl, fun _ => by kernel_rfl⟩, ⟨(Try.prog.info? 5).getD default, fun _ => by kernel_rfl, Nat.le_of_ble_eq_true (by kernel_rfl)⟩⟩
instance : TyElem Try.prog 24 2 := ⟨⟨.agg #[.int .i64 0, .slice none 0 0], fun _ => by kernel_rfl, rfl⟩, ⟨(Try.prog.info? 24).getD default, fun _ => by kernel_rfl, Nat.le_of_ble_eq_true (by kernel_rfl)⟩⟩
instance : TyMake Try.prog 65 24 [.int .i64 0, .nils] := ⟨Try.underlying65, ⟨.agg #[.int .i64 0, .slice none 0 0], fun _ => by kernel_rfl, rfl, fun _ => by kernel_rfl⟩, ⟨(Try.prog.info? 24).getD default, fun _ => by kernel_rfl, Nat.le_of_ble_eq_true (by kernel_rfl)⟩⟩
instance eq68 : TyEq Try.prog 68 [.i64, .i64, .i64, .i64] := ⟨by kernel_rfl, by kernel_rfl, by kernel_rfl⟩
instance eq83 : TyEq Try.prog 83 [.i64, .i64, .i64, .i64, .i64, .i64, .i64, .i64] := ⟨by kernel_rfl, by kernel_rfl, by kernel_rfl⟩
instance eq84 : TyEq Try.prog 84 [.i64, .i64, .i64, .i64, .i64, .i64, .i64, .i64] := ⟨by kernel_rfl, by kernel_rfl, by kernel_rfl⟩
instance : TyElem Try.prog 22 1 := ⟨⟨.slice none 0 0, fun _ => by kernel_rfl, rfl⟩, ⟨(Try.prog.info? 22).getD default, fun _ => by kernel_rfl, Nat.le_of_ble_eq_true (by kernel_rfl)⟩⟩
instance : TyMake Try.prog 87 22 [.nils] := ⟨Try.underlying87, ⟨.slice none 0 0, fun _ => by kernel_rfl, rfl, fun _ => by kernel_rfl⟩, ⟨(Try.prog.info? 22).getD default, fun _ => by kernel_rfl, Nat.le_of_ble_eq_true (by kernel_rfl)⟩⟩
instance : TyMap Try.prog 101 104 3 := ⟨Try.underlying101⟩
instance eq103 : TyEq Try.prog 103 [.i64, .i64] := ⟨by kernel_rfl, by kernel_rfl, by kernel_rfl⟩
instance eq104 : TyEq Try.prog 104 [.i64, .i64] := ⟨by kernel_rfl, by kernel_rfl, by kernel_rfl⟩
instance : TyKey Try.prog 104 (okFlat [.i64, .i64]) := TyKey.of_flat eq104
instance : FnOk Try.prog 3 := ⟨fun _ _ => by kernel_rfl⟩
instance : FnOk Try.prog 4 := ⟨fun _ _ => by kernel_rfl⟩
instance : FnOk Try.prog 5 := ⟨fun _ _ => by kernel_rfl⟩
instance : FnOk Try.prog 6 := ⟨fun _ _ => by kernel_rfl⟩
instance : FnOk Try.prog 7 := ⟨fun _ _ => by kernel_rfl⟩
instance : FnOk Try.prog 8 := ⟨fun _ _ => by kernel_rfl⟩
instance : FnOk Try.prog 9 := ⟨fun _ _ => by kernel_rfl⟩
instance : FnOk Try.prog 10 := ⟨fun _ _ => by kernel_rfl⟩
instance : FnOk Try.prog 11 := ⟨fun _ _ => by kernel_rfl⟩
instance : FnOk Try.prog 12 := ⟨fun _ _ => by kernel_rfl⟩
instance : FnOk Try.prog 13 := ⟨fun _ _ => by kernel_rfl⟩
instance : FnOk Try.prog 14 := ⟨fun _ _ => by kernel_rfl⟩
instance : FnOk Try.prog 15 := ⟨fun _ _ => by kernel_rfl⟩
instance : FnOk Try.prog 16 := ⟨fun _ _ => by kernel_rfl⟩
instance : FnOk Try.prog 17 := ⟨fun _ _ => by kernel_rfl⟩
instance : FnOk Try.prog 18 := ⟨fun _ _ => by kernel_rfl⟩
instance : FnOk Try.prog 19 := ⟨fun _ _ => by kernel_rfl⟩
instance : FnOk Try.prog 20 := ⟨fun _ _ => by kernel_rfl⟩
instance : FnOk Try.prog 21 := ⟨fun _ _ => by kernel_rfl⟩
instance : FnOk Try.prog 22 := ⟨fun _ _ => by kernel_rfl⟩
instance : FnOk Try.prog 23 := ⟨fun _ _ => by kernel_rfl⟩
instance : FnOk Try.prog 24 := ⟨fun _ _ => by kernel_rfl⟩
instance : FnOk Try.prog 25 := ⟨fun _ _ => by kernel_rfl⟩
instance : FnOk Try.prog 26 := ⟨fun _ _ => by kernel_rfl⟩
instance : FnOk Try.prog 27 := ⟨fun _ _ => by kernel_rfl⟩
instance : FnOk Try.prog 28 := ⟨fun _ _ => by kernel_rfl⟩
instance : FnOk Try.prog 29 := ⟨fun _ _ => by kernel_rfl⟩
instance : FnOk Try.prog 30 := ⟨fun _ _ => by kernel_rfl⟩
instance : FnOk Try.prog 31 := ⟨fun _ _ => by kernel_rfl⟩
instance : FnOk Try.prog 32 := ⟨fun _ _ => by kernel_rfl⟩
instance : FnOk Try.prog 33 := ⟨fun _ _ => by kernel_rfl⟩
instance : FnOk Try.prog 34 := ⟨fun _ _ => by kernel_rfl⟩
instance : FnOk Try.prog 35 := ⟨fun _ _ => by kernel_rfl⟩
instance : FnOk Try.prog 36 := ⟨fun _ _ => by kernel_rfl⟩
instance : FnOk Try.prog 37 := ⟨fun _ _ => by kernel_rfl⟩
instance : FnOk Try.prog 38 := ⟨fun _ _ => by kernel_rfl⟩
instance : FnOk Try.prog 39 := ⟨fun _ _ => by kernel_rfl⟩
instance : FnOk Try.prog 40 := ⟨fun _ _ => by kernel_rfl⟩
instance : FnOk Try.prog 41 := ⟨fun _ _ => by kernel_rfl⟩
instance : FnOk Try.prog 42 := ⟨fun _ _ => by kernel_rfl⟩
instance : FnOk Try.prog 43 := ⟨fun _ _ => by kernel_rfl⟩
instance : FnOk Try.prog 44 := ⟨fun _ _ => by kernel_rfl⟩
instance : FnOk Try.prog 45 := ⟨fun _ _ => by kernel_rfl⟩
instance : FnOk Try.prog 46 := ⟨fun _ _ => by kernel_rfl⟩
instance : FnOk Try.prog 47 := ⟨fun _ _ => by kernel_rfl⟩
instance : FnOk Try.prog 48 := ⟨fun _ _ => by kernel_rfl⟩
instance : FnOk Try.prog 49 := ⟨fun _ _ => by kernel_rfl⟩
instance : FnOk Try.prog 50 := ⟨fun _ _ => by kernel_rfl⟩
instance : FnOk Try.prog 51 := ⟨fun _ _ => by kernel_rfl⟩
instance : FnOk Try.prog 52 := ⟨fun _ _ => by kernel_rfl⟩
instance : FnOk Try.prog 53 := ⟨fun _ _ => by kernel_rfl⟩
instance : FnOk Try.prog 54 := ⟨fun _ _ => by kernel_rfl⟩
instance : FnOk Try.prog 55 := ⟨fun _ _ => by kernel_rfl⟩
instance : FnOk Try.prog 56 := ⟨fun _ _ => by kernel_rfl⟩
instance : FnOk Try.prog 57 := ⟨fun _ _ => by kernel_rfl⟩
instance : FnOk Try.prog 58 := ⟨fun _ _ => by kernel_rfl⟩
instance : FnOk Try.prog 59 := ⟨fun _ _ => by kernel_rfl⟩
instance : FnOk Try.prog 60 := ⟨fun _ _ => by kernel_rfl⟩
instance : FnOk Try.prog 61 := ⟨fun _ _ => by kernel_rfl⟩
instance : FnOk Try.prog 62 := ⟨fun _ _ => by kernel_rfl⟩
instance : FnOk Try.prog 63 := ⟨fun _ _ => by kernel_rfl⟩
instance : FnOk Try.prog 64 := ⟨fun _ _ => by kernel_rfl⟩
instance : FnOk Try.prog 65 := ⟨fun _ _ => by kernel_rfl⟩
instance : FnOk Try.prog 66 := ⟨fun _ _ => by kernel_rfl⟩
instance : FnOk Try.prog 67 := ⟨fun _ _ => by kernel_rfl⟩
instance : FnOk Try.prog 68 := ⟨fun _ _ => by kernel_rfl⟩
instance : FnOk Try.prog 69 := ⟨fun _ _ => by kernel_rfl⟩
instance : FnOk Try.prog 70 := ⟨fun _ _ => by kernel_rfl⟩
instance : FnOk Try.prog 71 := ⟨fun _ _ => by kernel_rfl⟩
instance : FnOk Try.prog 72 := ⟨fun _ _ => by kernel_rfl⟩
instance : FnOk Try.prog 73 := ⟨fun _ _ => by kernel_rfl⟩
instance : FnOk Try.prog 74 := ⟨fun _ _ => by kernel_rfl⟩
instance : FnOk Try.prog 75 := ⟨fun _ _ => by kernel_rfl⟩
instance : FnOk Try.prog 76 := ⟨fun _ _ => by kernel_rfl⟩
instance : FnOk Try.prog 77 := ⟨fun _ _ => by kernel_rfl⟩
instance : FnOk Try.prog 78 := ⟨fun _ _ => by kernel_rfl⟩
instance : FnOk Try.prog 79 := ⟨fun _ _ => by kernel_rfl⟩
instance : FnOk Try.prog 80 := ⟨fun _ _ => by kernel_rfl⟩
instance : FnOk Try.prog 81 := ⟨fun _ _ => by kernel_rfl⟩
instance : FnOk Try.prog 82 := ⟨fun _ _ => by kernel_rfl⟩
instance : FnOk Try.prog 83 := ⟨fun _ _ => by kernel_rfl⟩
instance : FnOk Try.prog 84 := ⟨fun _ _ => by kernel_rfl⟩
instance : FnOk Try.prog 85 := ⟨fun _ _ => by kernel_rfl⟩
instance : FnOk Try.prog 86 := ⟨fun _ _ => by kernel_rfl⟩
instance : FnOk Try.prog 87 := ⟨fun _ _ => by kernel_rfl⟩
instance : FnOk Try.prog 88 := ⟨fun _ _ => by kernel_rfl⟩
instance : FnOk Try.prog 89 := ⟨fun _ _ => by kernel_rfl⟩
instance : FnOk Try.prog 90 := ⟨fun _ _ => by kernel_rfl⟩
instance : FnOk Try.prog 91 := ⟨fun _ _ => by kernel_rfl⟩
instance : FnOk Try.prog 92 := ⟨fun _ _ => by kernel_rfl⟩
instance : FnOk Try.prog 93 := ⟨fun _ _ => by kernel_rfl⟩
instance : FnOk Try.prog 94 := ⟨fun _ _ => by kernel_rfl⟩
instance : FnOk Try.prog 95 := ⟨fun _ _ => by kernel_rfl⟩
instance : FnOk Try.prog 96 := ⟨fun _ _ => by kernel_rfl⟩
instance : FnOk Try.prog 97 := ⟨fun _ _ => by kernel_rfl⟩
instance : FnOk Try.prog 98 := ⟨fun _ _ => by kernel_rfl⟩
end Go.Proofs.Ythoodfiacfmhgaa
end
