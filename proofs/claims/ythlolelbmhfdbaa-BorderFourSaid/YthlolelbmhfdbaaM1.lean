import Derived.WalkKit
import Derived.Below
import Derived.AtR
import Derived.CallsIn
import Derived.OrdersIn
import Derived.KernelRfl
import Derived.RangeFuncRecord
import Derived.RangeFuncIn
import Derived.RangeFuncLeaves
import Derived.IntWalk
import Derived.ChangeKeysEq
import Derived.WideKeyRuns
import Derived.WalkSpells
set_option linter.all false
section
namespace Go.AE
open Go.RowKit
inductive AV where
  | bool (b : Bool)
  | int (k : IntKind) (n : Int)
  | str (s : ByteArray)
  | nilp
  | ptr (b o : Nat)
  | rop (cs : List AV) (o : Nat)
  | nils
  | slice (b o n c : Nat)
  | sliceo (b o n z : Nat)
  | out (b n z : Nat)
  | ros (cs : List AV) (n : Nat) (c : Option Nat)
  | nilm
  | mapl (b : Nat)
  | rom (es : List (AV × AV × Nat))
  | fn (f : FuncId) (first caps : List AV)
  | yld (l : Nat)
  | nilf
  | nili
  | agg (cs : List AV)
  | tup (vs : List AV)
  deriving Inhabited
mutual
/-- Whether a value names no block of one's own. -/
def AV.isd : AV → Bool
  | .bool _ | .int _ _ | .str _ | .nilp | .nils | .nilm | .nilf | .nili | .rop _ _ | .ros _ _ _ | .rom _ => true
  | .ptr _ _ | .slice _ _ _ _ | .sliceo _ _ _ _ | .out _ _ _ | .mapl _ | .yld _ => false
  | .agg cs | .tup cs => isdL cs
  | .fn _ a b => isdL a && isdL b
def isdL : List AV → Bool
  | [] => true
  | v :: vs => v.isd && isdL vs
end
def isdE : List (AV × AV × Nat) → Bool
  | [] => true
  | (k, v, _) :: es => k.isd && v.isd && isdE es
abbrev AV.data (v : AV) : Prop := v.isd = true
abbrev dataL (l : List AV) : Prop := isdL l = true
abbrev dataE (l : List (AV × AV × Nat)) : Prop := isdE l = true
theorem dataL_cons {v : AV} {l : List AV} : dataL (v :: l) ↔ v.data ∧ dataL l := by simp [dataL, AV.data, isdL]
theorem dataE_cons {k v : AV} {n : Nat} {l : List (AV × AV × Nat)} : dataE ((k, v, n) :: l) ↔ k.data ∧ v.data ∧ dataE l := by simp [dataE, AV.data, isdE, and_assoc]
theorem dataL_iff : ∀ {l : List AV}, dataL l ↔ ∀ v ∈ l, v.data
  | [] => by simp [dataL, isdL]
  | v :: l => by rw [dataL_cons, dataL_iff (l := l)]; simp
theorem dataL_append {a b : List AV} : dataL (a ++ b) ↔ dataL a ∧ dataL b := by simp only [dataL_iff, List.mem_append]; exact ⟨fun h => ⟨fun v hv => h v (.inl hv), fun v hv => h v (.inr hv)⟩, fun h v hv => hv.elim (h.1 v) (h.2 v)⟩
theorem dataL_drop {a : List AV} (h : dataL a) (n : Nat) : dataL (a.drop n) := dataL_iff.2 fun v hv => dataL_iff.1 h v (List.mem_of_mem_drop hv)
theorem dataL_take {a : List AV} (h : dataL a) (n : Nat) : dataL (a.take n) := dataL_iff.2 fun v hv => dataL_iff.1 h v (List.mem_of_mem_take hv)
theorem dataL_flatMap {α : Type} {f : α → List AV} {l : List α} (h : ∀ x ∈ l, dataL (f x)) : dataL (l.flatMap f) := dataL_iff.2 fun v hv => by
  obtain ⟨x, h1, h2⟩ := List.mem_flatMap.1 hv; exact dataL_iff.1 (h x h1) v h2
theorem dataL_map {α : Type} {f : α → AV} {l : List α} (h : ∀ x ∈ l, (f x).data) : dataL (l.map f) := dataL_iff.2 fun v hv => by
  obtain ⟨x, h1, rfl⟩ := List.mem_map.1 hv; exact h x h1
abbrev Env := Nat → Option (Nat × Nat × Nat)
def Env.le (ρ ρ' : Env) : Prop := ∀ b x, ρ b = some x → ρ' b = some x
theorem Env.le_refl (ρ : Env) : ρ.le ρ := fun _ _ h => h
theorem Env.le_trans {a b c : Env} (h : a.le b) (k : b.le c) : a.le c := fun x y e => k x y (h x y e)
def Env.nil : Env := fun _ => none
theorem Env.nil_le (ρ : Env) : Env.nil.le ρ := fun _ _ h => by cases h
abbrev Fz := Nat → Prop
def Fz.le (Φ Φ' : Fz) : Prop := ∀ r, Φ r → Φ' r
theorem Fz.le_refl (Φ : Fz) : Φ.le Φ := fun _ h => h
theorem Fz.le_trans {a b c : Fz} (h : a.le b) (k : b.le c) : a.le c := fun x y => k x (h x y)
def At (w : World) (r base : Nat) (xs : List Value) : Prop := ∀ i v, xs[i]? = some v → w.cell? ⟨r, base + i, none⟩ = some v
mutual
def Con (ρ : Env) (Φ : Fz) (w : World) : AV → Value → Prop
  | .bool b, x => x = .bool b
  | .int k n, x => x = .int k n
  | .str s, x => x = .string s
  | .nilp, x => x = .pointer none
  | .ptr b o, x => ∃ y, ρ b = some y ∧ x = .pointer (some ⟨y.1, y.2.1 + o, none⟩)
  | .rop cs o, x => ∃ r base xs, Φ r ∧ x = .pointer (some ⟨r, base + o, none⟩) ∧ ConL ρ Φ w cs xs ∧ At w r base xs ∧ dataL cs
  | .nils, x => x = .slice none 0 0
  | .slice b o n c, x => ∃ y, ρ b = some y ∧ x = .slice (some ⟨y.1, y.2.1 + o, none⟩) n c
  | .sliceo b o n z, x => ∃ y k, ρ b = some y ∧ n ≤ k ∧ o + k * z ≤ y.2.2 ∧ x = .slice (some ⟨y.1, y.2.1 + o, none⟩) n k
  | .out b n z, x => (n = 0 ∧ x = .slice none 0 0) ∨ (n ≠ 0 ∧ ∃ y k, ρ b = some y ∧ n ≤ k ∧ 0 + k * z ≤ y.2.2 ∧ x = .slice (some ⟨y.1, y.2.1 + 0, none⟩) n k)
  | .ros cs n c, x => (n = 0 ∧ (∃ p, x = .slice p 0 0) ∧ ∀ m, c = some m → 0 = m) ∨ ∃ r base xs k, Φ r ∧ x = .slice (some ⟨r, base, none⟩) n k ∧ n ≤ k ∧ (∀ m, c = some m → k = m) ∧ ConL ρ Φ w cs xs ∧ At w r base xs ∧ dataL cs
  | .nilm, x => x = .map none
  | .mapl b, x => ∃ y, ρ b = some y ∧ x = .map (some y.1)
  | .rom es, x => ∃ r l ck, Φ r ∧ x = .map (some r) ∧ ConE ρ Φ w es l ∧ w.heap[r]? = some (.map l.toArray ck) ∧ dataE es
  | .fn f a b, x => ∃ xs ys, ConL ρ Φ w a xs ∧ ConL ρ Φ w b ys ∧ x = .func (.func f) xs.toArray ys.toArray
  | .yld l, x => ∃ y, ρ l = some y ∧ x = .func (.yield y.1) #[] #[]
  | .nilf, x => x = .nilFunc
  | .nili, x => x = .nilIface
  | .agg cs, x => ∃ xs, ConL ρ Φ w cs xs ∧ x = .agg xs.toArray
  | .tup cs, x => ∃ xs, ConL ρ Φ w cs xs ∧ x = .tuple xs.toArray
def ConL (ρ : Env) (Φ : Fz) (w : World) : List AV → List Value → Prop
  | [], xs => xs = []
  | v :: vs, xs => ∃ y ys, xs = y :: ys ∧ Con ρ Φ w v y ∧ ConL ρ Φ w vs ys
def ConE (ρ : Env) (Φ : Fz) (w : World) : List (AV × AV × Nat) → List MapEntry → Prop
  | [], xs => xs = []
  | (k, v, n) :: es, xs => ∃ x y l, xs = ⟨x, y, n⟩ :: l ∧ Con ρ Φ w k x ∧ Con ρ Φ w v y ∧ ConE ρ Φ w es l
end
theorem conL_nil {ρ : Env} {Φ : Fz} {w : World} : ConL ρ Φ w [] [] := by simp [ConL]
theorem conL_cons {ρ : Env} {Φ : Fz} {w : World} {v : AV} {vs : List AV} {y : Value} {ys : List Value} (h : Con ρ Φ w v y) (k : ConL ρ Φ w vs ys) : ConL ρ Φ w (v :: vs) (y :: ys) := by
  simp only [ConL]; exact ⟨y, ys, rfl, h, k⟩
theorem conL_inv {ρ : Env} {Φ : Fz} {w : World} {v : AV} {vs : List AV} {xs : List Value} (h : ConL ρ Φ w (v :: vs) xs) : ∃ y ys, xs = y :: ys ∧ Con ρ Φ w v y ∧ ConL ρ Φ w vs ys := by
  simpa only [ConL] using h
theorem At.keep {w w' : World} {r base : Nat} {xs : List Value} (h : At w r base xs) (k : w'.heap[r]? = w.heap[r]?) : At w' r base xs := fun i v hi => by
  have := h i v hi
  simp only [World.cell?] at this ⊢
  rw [k]; exact this
mutual
theorem Con.mono {ρ ρ' : Env} {Φ Φ' : Fz} {w w' : World} (hρ : ρ.le ρ') (hΦ : Φ.le Φ') (hw : ∀ r, Φ r → w'.heap[r]? = w.heap[r]?) : ∀ (v : AV) {x : Value}, Con ρ Φ w v x → Con ρ' Φ' w' v x
  | .bool _, _, h | .int _ _, _, h | .str _, _, h | .nilp, _, h | .nils, _, h | .nilm, _, h | .nilf, _, h | .nili, _, h => by simpa only [Con] using h
  | .ptr b o, _, h => by
    simp only [Con] at h ⊢; obtain ⟨y, h1, h2⟩ := h; exact ⟨y, hρ _ _ h1, h2⟩
  | .rop cs o, _, h => by
    simp only [Con] at h ⊢; obtain ⟨r, base, xs, h1, h2, h3, h4, h5⟩ := h; exact ⟨r, base, xs, hΦ _ h1, h2, ConL.mono hρ hΦ hw cs h3, h4.keep (hw _ h1), h5⟩
  | .slice b o n c, _, h => by
    simp only [Con] at h ⊢; obtain ⟨y, h1, h2⟩ := h; exact ⟨y, hρ _ _ h1, h2⟩
  | .sliceo b o n z, _, h => by
    simp only [Con] at h ⊢; obtain ⟨y, k, h1, h2⟩ := h; exact ⟨y, k, hρ _ _ h1, h2⟩
  | .out b n z, _, h => by
    simp only [Con] at h ⊢; exact h.imp id fun ⟨h0, y, k, h1, h2⟩ => ⟨h0, y, k, hρ _ _ h1, h2⟩
  | .ros cs n c, _, h => by
    simp only [Con] at h ⊢; rcases h with h | ⟨r, base, xs, k, h1, h2, h3, h4, h5, h6, h7⟩; exact .inl h; exact .inr ⟨r, base, xs, k, hΦ _ h1, h2, h3, h4, ConL.mono hρ hΦ hw cs h5, h6.keep (hw _ h1), h7⟩
  | .mapl b, _, h => by
    simp only [Con] at h ⊢; obtain ⟨y, h1, h2⟩ := h; exact ⟨y, hρ _ _ h1, h2⟩
  | .rom es, _, h => by
    simp only [Con] at h ⊢; obtain ⟨r, l, ck, h1, h2, h3, h4, h5⟩ := h; exact ⟨r, l, ck, hΦ _ h1, h2, ConE.mono hρ hΦ hw es h3, (hw _ h1).trans h4, h5⟩
  | .fn f a b, _, h => by
    simp only [Con] at h ⊢; obtain ⟨xs, ys, h1, h2, h3⟩ := h; exact ⟨xs, ys, ConL.mono hρ hΦ hw a h1, ConL.mono hρ hΦ hw b h2, h3⟩
  | .yld l, _, h => by
    simp only [Con] at h ⊢; obtain ⟨y, h1, h2⟩ := h; exact ⟨y, hρ _ _ h1, h2⟩
  | .agg cs, _, h => by
    simp only [Con] at h ⊢; obtain ⟨xs, h1, h2⟩ := h; exact ⟨xs, ConL.mono hρ hΦ hw cs h1, h2⟩
  | .tup cs, _, h => by
    simp only [Con] at h ⊢; obtain ⟨xs, h1, h2⟩ := h; exact ⟨xs, ConL.mono hρ hΦ hw cs h1, h2⟩
theorem ConL.mono {ρ ρ' : Env} {Φ Φ' : Fz} {w w' : World} (hρ : ρ.le ρ') (hΦ : Φ.le Φ') (hw : ∀ r, Φ r → w'.heap[r]? = w.heap[r]?) : ∀ (vs : List AV) {xs : List Value}, ConL ρ Φ w vs xs → ConL ρ' Φ' w' vs xs
  | [], _, h => by simpa only [ConL] using h
  | v :: vs, _, h => by
    obtain ⟨y, ys, rfl, h1, h2⟩ := conL_inv h; exact conL_cons (Con.mono hρ hΦ hw v h1) (ConL.mono hρ hΦ hw vs h2)
theorem ConE.mono {ρ ρ' : Env} {Φ Φ' : Fz} {w w' : World} (hρ : ρ.le ρ') (hΦ : Φ.le Φ') (hw : ∀ r, Φ r → w'.heap[r]? = w.heap[r]?) : ∀ (es : List (AV × AV × Nat)) {l : List MapEntry}, ConE ρ Φ w es l → ConE ρ' Φ' w' es l
  | [], _, h => by simpa only [ConE] using h
  | (k, v, n) :: es, _, h => by
    simp only [ConE] at h ⊢; obtain ⟨x, y, l, h0, h1, h2, h3⟩ := h; exact ⟨x, y, l, h0, Con.mono hρ hΦ hw k h1, Con.mono hρ hΦ hw v h2, ConE.mono hρ hΦ hw es h3⟩
end
section lists
variable {ρ : Env} {Φ : Fz} {w : World}
theorem conL_len : ∀ {vs : List AV} {xs : List Value}, ConL ρ Φ w vs xs → xs.length = vs.length
  | [], _, h => by simp only [ConL] at h; subst h; rfl
  | _ :: _, _, h => by obtain ⟨y, ys, rfl, _, h2⟩ := conL_inv h; simp [conL_len h2]
theorem conL_get : ∀ {vs : List AV} {xs : List Value}, ConL ρ Φ w vs xs → ∀ (i : Nat) (v : AV), vs[i]? = some v → ∃ y, Con ρ Φ w v y ∧ xs[i]? = some y
  | [], _, _, i, v, hi => by simp at hi
  | u :: vs, _, h, i, v, hi => by
    obtain ⟨y, ys, rfl, h1, h2⟩ := conL_inv h
    cases i with
    | zero => simp at hi; subst hi; exact ⟨y, h1, by simp⟩
    | succ i => simp at hi; obtain ⟨z, hz, hz2⟩ := conL_get h2 i v hi; exact ⟨z, hz, by simpa using hz2⟩
theorem conL_append : ∀ {vs us : List AV} {xs ys : List Value}, ConL ρ Φ w vs xs → ConL ρ Φ w us ys → ConL ρ Φ w (vs ++ us) (xs ++ ys)
  | [], _, _, _, h, k => by simp only [ConL] at h; subst h; simpa using k
  | _ :: _, _, _, _, h, k => by obtain ⟨y, ys, rfl, h1, h2⟩ := conL_inv h; exact conL_cons h1 (conL_append h2 k)
theorem conL_take : ∀ {vs : List AV} {xs : List Value} (n : Nat), ConL ρ Φ w vs xs → ConL ρ Φ w (vs.take n) (xs.take n)
  | [], _, n, h => by simp only [ConL] at h; subst h; simp [conL_nil]
  | _ :: _, _, 0, _ => by simp [conL_nil]
  | _ :: _, _, n + 1, h => by obtain ⟨y, ys, rfl, h1, h2⟩ := conL_inv h; simpa using conL_cons h1 (conL_take n h2)
theorem conL_drop : ∀ {vs : List AV} {xs : List Value} (n : Nat), ConL ρ Φ w vs xs → ConL ρ Φ w (vs.drop n) (xs.drop n)
  | [], _, n, h => by simp only [ConL] at h; subst h; simp [conL_nil]
  | _ :: _, _, 0, h => by simpa using h
  | _ :: _, _, n + 1, h => by obtain ⟨y, ys, rfl, h1, h2⟩ := conL_inv h; simpa using conL_drop n h2
theorem conL_set : ∀ {vs : List AV} {xs : List Value} (i : Nat) {u : AV} {y : Value}, ConL ρ Φ w vs xs → Con ρ Φ w u y → ConL ρ Φ w (vs.set i u) (xs.set i y)
  | [], _, i, _, _, h, _ => by simp only [ConL] at h; subst h; simp [conL_nil]
  | _ :: _, _, 0, _, _, h, k => by obtain ⟨y, ys, rfl, h1, h2⟩ := conL_inv h; simpa using conL_cons k h2
  | _ :: _, _, i + 1, _, _, h, k => by obtain ⟨y, ys, rfl, h1, h2⟩ := conL_inv h; simpa using conL_cons h1 (conL_set i h2 k)
end lists
mutual
theorem Con.data {ρ ρ' : Env} {Φ : Fz} {w : World} : ∀ (v : AV) {x : Value}, v.data → Con ρ Φ w v x → Con ρ' Φ w v x
  | .bool _, _, _, h | .int _ _, _, _, h | .str _, _, _, h | .nilp, _, _, h | .nils, _, _, h | .nilm, _, _, h | .nilf, _, _, h | .nili, _, _, h => by simpa only [Con] using h
  | .ptr _ _, _, d, _ | .slice _ _ _ _, _, d, _ | .sliceo _ _ _ _, _, d, _ | .out _ _ _, _, d, _ | .mapl _, _, d, _ | .yld _, _, d, _ => by cases d
  | .rop cs o, _, _, h => by
    simp only [Con] at h ⊢; obtain ⟨r, base, xs, h1, h2, h3, h4, h5⟩ := h; exact ⟨r, base, xs, h1, h2, ConL.data cs h5 h3, h4, h5⟩
  | .ros cs n c, _, _, h => by
    simp only [Con] at h ⊢; rcases h with h | ⟨r, base, xs, k, h1, h2, h3, h4, h5, h6, h7⟩; exact .inl h; exact .inr ⟨r, base, xs, k, h1, h2, h3, h4, ConL.data cs h7 h5, h6, h7⟩
  | .rom es, _, _, h => by
    simp only [Con] at h ⊢; obtain ⟨r, l, ck, h1, h2, h3, h4, h5⟩ := h; exact ⟨r, l, ck, h1, h2, ConE.data es h5 h3, h4, h5⟩
  | .fn f a b, _, d, h => by
    have d' : isdL a = true ∧ isdL b = true := by simpa [AV.data, AV.isd] using d
    simp only [Con] at h ⊢; obtain ⟨xs, ys, h1, h2, h3⟩ := h; exact ⟨xs, ys, ConL.data a d'.1 h1, ConL.data b d'.2 h2, h3⟩
  | .agg cs, _, d, h => by
    have d' : isdL cs = true := by simpa [AV.data, AV.isd] using d
    simp only [Con] at h ⊢; obtain ⟨xs, h1, h2⟩ := h; exact ⟨xs, ConL.data cs d' h1, h2⟩
  | .tup cs, _, d, h => by
    have d' : isdL cs = true := by simpa [AV.data, AV.isd] using d
    simp only [Con] at h ⊢; obtain ⟨xs, h1, h2⟩ := h; exact ⟨xs, ConL.data cs d' h1, h2⟩
theorem ConL.data {ρ ρ' : Env} {Φ : Fz} {w : World} : ∀ (vs : List AV) {xs : List Value}, dataL vs → ConL ρ Φ w vs xs → ConL ρ' Φ w vs xs
  | [], _, _, h => by simpa only [ConL] using h
  | v :: vs, _, d, h => by
    have d' := dataL_cons.1 d; obtain ⟨y, ys, rfl, h1, h2⟩ := conL_inv h; exact conL_cons (Con.data v d'.1 h1) (ConL.data vs d'.2 h2)
theorem ConE.data {ρ ρ' : Env} {Φ : Fz} {w : World} : ∀ (es : List (AV × AV × Nat)) {l : List MapEntry}, dataE es → ConE ρ Φ w es l → ConE ρ' Φ w es l
  | [], _, _, h => by simpa only [ConE] using h
  | (k, v, n) :: es, _, d, h => by
    have d' := dataE_cons.1 d; simp only [ConE] at h ⊢; obtain ⟨x, y, l, h0, h1, h2, h3⟩ := h; exact ⟨x, y, l, h0, Con.data k d'.1 h1, Con.data v d'.2.1 h2, ConE.data es d'.2.2 h3⟩
end
inductive ABlk where
  | cells (cs : List AV) (t : TypeId)
  | map (es : List (AV × AV × Nat)) (clock : Nat)
  | iter (v : AV) (since : Nat) (seen : List Nat) (stepped : Nat)
  | loop (st : LoopState) (pending : Option Code) (T : List (Nat × AV)) (nt : Nat) (params : Array Tmp) (assign body : Code) (d : Nat)
  | defd (shut : Bool)
def lk {α : Type} : List (Nat × α) → Nat → Option α
  | [], _ => none
  | (k, v) :: l, n => if k == n then some v else lk l n
theorem lk_cons {α : Type} (k : Nat) (v : α) (l : List (Nat × α)) (n : Nat) : lk ((k, v) :: l) n = if k = n then some v else lk l n := by
  simp only [lk, beq_iff_eq]
structure TmpsAt (ρ : Env) (Φ : Fz) (w : World) (T : List (Nat × AV)) (nt : Nat) (tmps : Array Value) : Prop where
  size : tmps.size = nt
  at_ : ∀ i v, lk T i = some v → ∃ x, Con ρ Φ w v x ∧ tmps[i]? = some x
theorem TmpsAt.mono {ρ ρ' : Env} {Φ Φ' : Fz} {w w' : World} (hρ : ρ.le ρ') (hΦ : Φ.le Φ') (hw : ∀ r, Φ r → w'.heap[r]? = w.heap[r]?) {T : List (Nat × AV)} {nt : Nat} {tmps : Array Value} (k : TmpsAt ρ Φ w T nt tmps) : TmpsAt ρ' Φ' w' T nt tmps :=
  ⟨k.size, fun i v hi => let ⟨x, h1, h2⟩ := k.at_ i v hi; ⟨x, Con.mono hρ hΦ hw v h1, h2⟩⟩
def BlkAt (ρ : Env) (Φ : Fz) (w : World) (x : Nat × Nat × Nat) : ABlk → Obj → Prop
  | .cells cs t, o => ∃ pre xs rest, ConL ρ Φ w cs xs ∧ pre.length = x.2.1 ∧ x.2.2 = xs.length + rest.length ∧ o = .cells (pre ++ xs ++ rest).toArray t (0, 0)
  | .map es ck, o => ∃ l, ConE ρ Φ w es l ∧ o = .map l.toArray ck
  | .iter v since seen stepped, o => ∃ r, Con ρ Φ w v (.map (some r)) ∧ o = .mapIter (some r) since seen.toArray stepped ∧ x.2.1 = 0
  | .loop st pending T nt params assign body d, o => ∃ fn tmps y, ρ d = some y ∧ TmpsAt ρ Φ w T nt tmps ∧ o = .loop { state := st, pending := pending, fn := fn, tmps := tmps, params := params, assign := assign, body := body, defers := y.1 }
  | .defd _, _ => False
theorem BlkAt.mono {ρ ρ' : Env} {Φ Φ' : Fz} {w w' : World} (hρ : ρ.le ρ') (hΦ : Φ.le Φ') (hw : ∀ r, Φ r → w'.heap[r]? = w.heap[r]?) {x : Nat × Nat × Nat} : ∀ {k : ABlk} {o : Obj}, BlkAt ρ Φ w x k o → BlkAt ρ' Φ' w' x k o
  | .cells _ _, _, ⟨pre, xs, rest, h1, h2⟩ => ⟨pre, xs, rest, ConL.mono hρ hΦ hw _ h1, h2⟩
  | .map _ _, _, ⟨l, h1, h2⟩ => ⟨l, ConE.mono hρ hΦ hw _ h1, h2⟩
  | .iter _ _ _ _, _, ⟨r, h1, h2⟩ => ⟨r, Con.mono hρ hΦ hw _ h1, h2⟩
  | .loop _ _ _ _ _ _ _ _, _, ⟨fn, tmps, y, h1, h2, h3⟩ => ⟨fn, tmps, y, hρ _ _ h1, h2.mono hρ hΦ hw, h3⟩
  | .defd _, _, h => h
structure Keeps (Wr : Nat → Prop) (w w' : World) : Prop where
  os : w'.os = w.os
  tape : w'.tape = w.tape
  output : w'.output = w.output
  size : w.heap.size ≤ w'.heap.size
  block : ∀ r, r < w.heap.size → ¬ Wr r → w'.heap[r]? = w.heap[r]?
theorem Keeps.refl (Wr : Nat → Prop) (w : World) : Keeps Wr w w := ⟨rfl, rfl, rfl, Nat.le_refl _, fun _ _ _ => rfl⟩
theorem Keeps.trans {Wr : Nat → Prop} {a b c : World} (h : Keeps Wr a b) (k : Keeps Wr b c) : Keeps Wr a c :=
  ⟨k.os.trans h.os, k.tape.trans h.tape, k.output.trans h.output, Nat.le_trans h.size k.size, fun r hr hw => (k.block r (Nat.lt_of_lt_of_le hr h.size) hw).trans (h.block r hr hw)⟩
theorem Keeps.mono {Wr Wr' : Nat → Prop} {w w' : World} (h : Keeps Wr w w') (k : ∀ r, r < w.heap.size → Wr r → Wr' r) : Keeps Wr' w w' :=
  ⟨h.os, h.tape, h.output, h.size, fun r hr hw => h.block r hr fun hh => hw (k r hr hh)⟩
theorem Keeps.below {w w' : World} (h : Keeps (fun _ => False) w w') : Below w.heap.size w w' := ⟨h.os, h.tape, h.output, h.size, fun r hr => h.block r hr id⟩
theorem Keeps.of_below {w w' : World} (h : Below w.heap.size w w') (Wr : Nat → Prop) : Keeps Wr w w' := ⟨h.os, h.tape, h.output, h.size, fun r hr _ => h.block r hr⟩
end Go.AE
end

section
namespace Go.AE
open Go.RowKit
abbrev AH := List (Nat × Option ABlk)
def gt : AH → Nat → Option ABlk
  | [], _ => none
  | (k, v) :: l, n => if k == n then v else gt l n
theorem gt_cons (k : Nat) (v : Option ABlk) (l : AH) (n : Nat) : gt ((k, v) :: l) n = if k = n then v else gt l n := by
  simp only [gt, beq_iff_eq]
structure Mem (Wr : Nat → Prop) (w0 : World) (ρ : Env) (Φ : Fz) (G : Nat → Option ABlk) (w : World) : Prop where
  at_ : ∀ b k, G b = some k → ∃ x o, ρ b = some x ∧ w.heap[x.1]? = some o ∧ BlkAt ρ Φ w x k o
  inj : ∀ b b' x x', G b ≠ none → G b' ≠ none → ρ b = some x → ρ b' = some x' → x.1 = x'.1 → b = b'
  free : ∀ b x, G b ≠ none → ρ b = some x → ¬ Φ x.1
  own : ∀ b x, G b ≠ none → ρ b = some x → Wr x.1 ∨ w0.heap.size ≤ x.1
  frz : ∀ r, Φ r → r < w.heap.size
  keep : Keeps Wr w0 w
theorem Mem.lt {Wr : Nat → Prop} {w0 : World} {ρ : Env} {Φ : Fz} {G : Nat → Option ABlk} {w : World} (h : Mem Wr w0 ρ Φ G w) {b : Nat} {x : Nat × Nat × Nat} (hb : G b ≠ none) (hx : ρ b = some x) : x.1 < w.heap.size := by
  cases e : G b with
  | none => exact absurd e hb
  | some k =>
    obtain ⟨y, o, h1, h2, _⟩ := h.at_ b k e
    rw [hx] at h1; cases h1
    exact (Array.getElem?_eq_some_iff.1 h2).1
def img (ρ : Env) (l : List Nat) (r : Nat) : Prop := ∃ b ∈ l, ∃ x, ρ b = some x ∧ x.1 = r
abbrev dObj : Obj := .deferred (some [])
def Dk (Φ : Fz) (w : World) (Φ' : Fz) (w' : World) : Prop := ∀ y, w.heap[y]? = some dObj → ¬ Φ y → w'.heap[y]? = some dObj ∧ ¬ Φ' y
theorem Dk.refl (Φ : Fz) (w : World) : Dk Φ w Φ w := fun _ h k => ⟨h, k⟩
theorem Dk.trans {Φ Φ' Φ'' : Fz} {w w' w'' : World} (h : Dk Φ w Φ' w') (k : Dk Φ' w' Φ'' w'') : Dk Φ w Φ'' w'' := fun y h1 h2 => let ⟨h3, h4⟩ := h y h1 h2; k y h3 h4
theorem Dk.below {Φ Φ' : Fz} {w w' : World} (h : Below w.heap.size w w') (hn : ∀ r, Φ' r → Φ r ∨ w.heap.size ≤ r) : Dk Φ w Φ' w' := fun y h1 h2 => by
  have hl := (Array.getElem?_eq_some_iff.1 h1).1
  refine ⟨(h.block y hl).trans h1, fun hf => ?_⟩
  rcases hn y hf with h3 | h3
  · exact h2 h3
  · omega
theorem BlkAt.nd {ρ : Env} {Φ : Fz} {w : World} {x : Nat × Nat × Nat} {k : ABlk} {o : Obj} (h : BlkAt ρ Φ w x k o) : o ≠ dObj := by
  rintro rfl
  cases k with
  | cells cs t => obtain ⟨_, _, _, _, _, _, h⟩ := h; cases h
  | map es ck => obtain ⟨_, _, h⟩ := h; cases h
  | iter v a b c => obtain ⟨_, _, h, _⟩ := h; cases h
  | loop _ _ _ _ _ _ _ _ => obtain ⟨_, _, _, _, _, h⟩ := h; cases h
  | defd s => exact h
structure Post (Wr : Nat → Prop) (w0 : World) (ρ : Env) (Φ : Fz) (w : World) (nx nx' : Nat) (mods : List Nat) (G' : Nat → Option ABlk) (ρ' : Env) (Φ' : Fz) (w' : World) : Prop where
  le : ρ.le ρ'
  dom : ∀ b, ρ' b ≠ none → ρ b ≠ none ∨ (nx ≤ b ∧ b < nx')
  fle : Φ.le Φ'
  fnew : ∀ r, Φ' r → Φ r ∨ w.heap.size ≤ r ∨ (img ρ mods r ∧ (Wr r ∨ w0.heap.size ≤ r))
  keep : Keeps (img ρ mods) w w'
  stab : ∀ r, Φ r → w'.heap[r]? = w.heap[r]?
  bnew : ∀ b x, G' b ≠ none → ρ b = none → ρ' b = some x → w.heap.size ≤ x.1 ∨ img ρ mods x.1
  mem : Mem Wr w0 ρ' Φ' G' w'
  dk : Dk Φ w Φ' w'
section
variable {Wr : Nat → Prop} {w0 w w' : World} {ρ : Env} {Φ : Fz} {G G' : Nat → Option ABlk}
theorem Mem.less (h : Mem Wr w0 ρ Φ G w) (hs : ∀ b k, G' b = some k → G b = some k) : Mem Wr w0 ρ Φ G' w := by
  have hn : ∀ b, G' b ≠ none → G b ≠ none := fun b hb e => by
    cases e' : G' b with
    | none => exact hb e'
    | some k => rw [hs b k e'] at e; cases e
  exact ⟨fun b k hb => h.at_ b k (hs b k hb), fun b b' x x' h1 h2 => h.inj b b' x x' (hn b h1) (hn b' h2), fun b x hb => h.free b x (hn b hb), fun b x hb => h.own b x (hn b hb), h.frz, h.keep⟩
theorem Mem.congr (h : Mem Wr w0 ρ Φ G w) (hs : ∀ b, G' b = G b) : Mem Wr w0 ρ Φ G' w := h.less fun b k hb => by rw [← hs b]; exact hb
theorem Mem.later (h : Mem Wr w0 ρ Φ G w) {Φ' : Fz} (hb : Below w.heap.size w w') (hΦ : Φ.le Φ') (hn : ∀ r, Φ' r → Φ r ∨ w.heap.size ≤ r) (hf : ∀ r, Φ' r → r < w'.heap.size) : Mem Wr w0 ρ Φ' G w' where
  at_ b k hk := by
    obtain ⟨x, o, h1, h2, h3⟩ := h.at_ b k hk
    exact ⟨x, o, h1, (hb.block _ (Array.getElem?_eq_some_iff.1 h2).1).trans h2, h3.mono ρ.le_refl hΦ fun r hr => hb.block r (h.frz r hr)⟩
  inj := h.inj
  free b x hk hx := by
    intro hp
    rcases hn _ hp with h1 | h1
    · exact h.free b x hk hx h1
    · have := h.lt hk hx; omega
  own := h.own
  frz := hf
  keep := h.keep.trans (Keeps.of_below hb _)
theorem Post.later (h : Mem Wr w0 ρ Φ G w) {Φ' : Fz} (nx : Nat) (hb : Below w.heap.size w w') (hΦ : Φ.le Φ') (hn : ∀ r, Φ' r → Φ r ∨ w.heap.size ≤ r) (hf : ∀ r, Φ' r → r < w'.heap.size) : Post Wr w0 ρ Φ w nx nx [] G ρ Φ' w' :=
  ⟨ρ.le_refl, fun _ hb => .inl hb, hΦ, fun r hr => (hn r hr).imp id .inl, Keeps.of_below hb _, fun r hr => hb.block r (h.frz r hr), fun b x _ h1 h2 => (by rw [h1] at h2; cases h2), h.later hb hΦ hn hf, .below hb hn⟩
theorem Post.same (h : Mem Wr w0 ρ Φ G w) (nx : Nat) : Post Wr w0 ρ Φ w nx nx [] G ρ Φ w := Post.later h nx (Below.refl _ _) Φ.le_refl (fun _ h => .inl h) h.frz
def Env.upd (ρ : Env) (b : Nat) (x : Nat × Nat × Nat) : Env := fun m => if m = b then some x else ρ m
theorem Env.le_upd {ρ : Env} {b : Nat} (x : Nat × Nat × Nat) (h : ρ b = none) : ρ.le (ρ.upd b x) := fun m y e => by
  unfold Env.upd; rw [if_neg (by rintro rfl; rw [h] at e; cases e)]; exact e
theorem Env.upd_same (ρ : Env) (b : Nat) (x : Nat × Nat × Nat) : (ρ.upd b x) b = some x := by simp [Env.upd]
theorem Env.upd_ne (ρ : Env) {b c : Nat} (x : Nat × Nat × Nat) (h : c ≠ b) : (ρ.upd b x) c = ρ c := by simp [Env.upd, h]
def upG (G : Nat → Option ABlk) (b : Nat) (k : Option ABlk) : Nat → Option ABlk := fun m => if m = b then k else G m
theorem gt_upG (H : AH) (b : Nat) (k : Option ABlk) : gt ((b, k) :: H) = upG (gt H) b k := by
  funext m; rw [gt_cons]; unfold upG; by_cases e : b = m
  · subst e; simp
  · rw [if_neg e, if_neg (fun h => e h.symm)]
theorem Post.new (h : Mem Wr w0 ρ Φ G w) {nx : Nat} (hρ : ρ nx = none) {k : ABlk} {o : Obj} (base room : Nat) (hk : BlkAt ρ Φ w (w.heap.size, base, room) k o) :
    Post Wr w0 ρ Φ w nx (nx + 1) [] (upG G nx (some k)) (ρ.upd nx (w.heap.size, base, room)) Φ (w.alloc o) := by
  have hle := Env.le_upd (w.heap.size, base, room) hρ
  have hb : Below w.heap.size w (w.alloc o) := (Below.refl _ _).alloc (Nat.le_refl _) o
  have hst : ∀ r, Φ r → (w.alloc o).heap[r]? = w.heap[r]? := fun r hr => hb.block r (h.frz r hr)
  have hG : G nx = none := by
    cases e : G nx with
    | none => rfl
    | some k => obtain ⟨x, o, h1, _⟩ := h.at_ _ k e; rw [hρ] at h1; cases h1
  have live : ∀ c, c ≠ nx → upG G nx (some k) c ≠ none → G c ≠ none := fun c hc hl => by unfold upG at hl; rwa [if_neg hc] at hl
  refine ⟨hle, fun b hb' => ?_, Φ.le_refl, fun _ h => .inl h, Keeps.of_below hb _, hst, fun b x _ h1 h2 => ?_, ⟨fun b k' hb' => ?_, fun b b' x x' h1 h2 h3 h4 h5 => ?_, fun b x h1 h2 => ?_, fun b x h1 h2 => ?_, fun r hr => ?_, h.keep.trans (Keeps.of_below hb _)⟩, .below hb fun _ h => .inl h⟩
  · by_cases e : b = nx
    · subst e; exact .inr ⟨Nat.le_refl _, Nat.lt_succ_self _⟩
    · rw [Env.upd_ne _ _ e] at hb'; exact .inl hb'
  · by_cases e : b = nx
    · subst e; rw [Env.upd_same] at h2; cases h2; exact .inl (Nat.le_refl _)
    · rw [Env.upd_ne _ _ e, h1] at h2; cases h2
  · by_cases e : b = nx
    · subst e
      simp only [upG, if_true] at hb'; cases hb'
      exact ⟨_, o, Env.upd_same _ _ _, heap_alloc_new w o, hk.mono hle Φ.le_refl hst⟩
    · simp only [upG, if_neg e] at hb'
      obtain ⟨x, o', h1, h2, h3⟩ := h.at_ b k' hb'
      exact ⟨x, o', hle _ _ h1, (hb.block _ (Array.getElem?_eq_some_iff.1 h2).1).trans h2, h3.mono hle Φ.le_refl hst⟩
  · by_cases e1 : b = nx
    · by_cases e2 : b' = nx
      · rw [e1, e2]
      · subst e1; rw [Env.upd_same] at h3; rw [Env.upd_ne _ _ e2] at h4; cases h3
        have := h.lt (live b' e2 h2) h4; simp only at h5; omega
    · by_cases e2 : b' = nx
      · subst e2; rw [Env.upd_same] at h4; rw [Env.upd_ne _ _ e1] at h3; cases h4
        have := h.lt (live b e1 h1) h3; simp only at h5; omega
      · rw [Env.upd_ne _ _ e1] at h3; rw [Env.upd_ne _ _ e2] at h4
        exact h.inj b b' x x' (live b e1 h1) (live b' e2 h2) h3 h4 h5
  · by_cases e : b = nx
    · subst e; rw [Env.upd_same] at h2; cases h2; intro hp; have := h.frz _ hp; simp only at this; omega
    · rw [Env.upd_ne _ _ e] at h2; exact h.free b x (live b e h1) h2
  · by_cases e : b = nx
    · subst e; rw [Env.upd_same] at h2; cases h2; exact .inr h.keep.size
    · rw [Env.upd_ne _ _ e] at h2; exact h.own b x (live b e h1) h2
  · have := h.frz r hr; simp; omega
structure OneNew (w w' : World) (r : Nat) (o : Obj) : Prop where
  os : w'.os = w.os
  tape : w'.tape = w.tape
  output : w'.output = w.output
  size : w'.heap.size = w.heap.size
  here : w'.heap[r]? = some o
  other : ∀ i, i ≠ r → w'.heap[i]? = w.heap[i]?
theorem OneNew.trans {w w₁ w₂ : World} {r : Nat} {o o₁ : Obj} (h : OneNew w w₁ r o) (k : OneNew w₁ w₂ r o₁) : OneNew w w₂ r o₁ :=
  ⟨k.os.trans h.os, k.tape.trans h.tape, k.output.trans h.output, k.size.trans h.size, k.here, fun i hi => (k.other i hi).trans (h.other i hi)⟩
theorem OneNew.keeps {w w' : World} {r : Nat} {o : Obj} (h : OneNew w w' r o) (Wr : Nat → Prop) (hr : Wr r ) : Keeps Wr w w' :=
  ⟨h.os, h.tape, h.output, by rw [h.size]; exact Nat.le_refl _, fun i _ hi => h.other i (by rintro rfl; exact hi hr)⟩
theorem Keeps.one {w : World} {r : Nat} {o : Obj} (h : Keeps Wr w0 w) (hw : OneNew w w' r o) (ho : Wr r ∨ w0.heap.size ≤ r) : Keeps Wr w0 w' :=
  ⟨hw.os.trans h.os, hw.tape.trans h.tape, hw.output.trans h.output, by rw [hw.size]; exact h.size, fun i hi hn => (hw.other i (by
    rintro rfl
    rcases ho with h1 | h1
    · exact hn h1
    · omega)).trans (h.block i hi hn)⟩
theorem Mem.dkOne (h : Mem Wr w0 ρ Φ G w) {b : Nat} {k : ABlk} {x : Nat × Nat × Nat} {o : Obj} (hb : G b = some k) (hx : ρ b = some x) (hw : OneNew w w' x.1 o) : Dk Φ w Φ w' := fun y h1 h2 => by
  refine ⟨(hw.other y ?_).trans h1, h2⟩
  rintro rfl
  obtain ⟨z, o', e1, e2, e3⟩ := h.at_ b k hb
  rw [hx] at e1; cases e1
  rw [h1] at e2; cases e2
  exact e3.nd rfl
theorem Mem.dkFreeze (h : Mem Wr w0 ρ Φ G w) {b : Nat} {k : ABlk} {x : Nat × Nat × Nat} (hb : G b = some k) (hx : ρ b = some x) : Dk Φ w (fun r => Φ r ∨ r = x.1) w := fun y h1 h2 => by
  refine ⟨h1, ?_⟩
  rintro (h3 | rfl)
  · exact h2 h3
  · obtain ⟨z, o', e1, e2, e3⟩ := h.at_ b k hb
    rw [hx] at e1; cases e1
    rw [h1] at e2; cases e2
    exact e3.nd rfl
theorem Post.set (h : Mem Wr w0 ρ Φ G w) {b : Nat} {k k' : ABlk} {x : Nat × Nat × Nat} {o : Obj} (nx : Nat) (hb : G b = some k) (hx : ρ b = some x) (hw : OneNew w w' x.1 o) (hk : BlkAt ρ Φ w x k' o) :
    Post Wr w0 ρ Φ w nx nx [b] (upG G b (some k')) ρ Φ w' := by
  have hne : G b ≠ none := by rw [hb]; simp
  have hst : ∀ r, Φ r → w'.heap[r]? = w.heap[r]? := fun r hr => hw.other r (by rintro rfl; exact h.free b x hne hx hr)
  have live : ∀ c, upG G b (some k') c ≠ none → G c ≠ none := fun c hl => by
    by_cases e : c = b
    · subst e; exact hne
    · unfold upG at hl; rwa [if_neg e] at hl
  refine ⟨ρ.le_refl, fun _ hb => .inl hb, Φ.le_refl, fun _ h => .inl h, hw.keeps _ ⟨b, by simp, x, hx, rfl⟩, hst, fun c y _ h1 h2 => (by rw [h1] at h2; cases h2), ⟨fun c k'' hc => ?_, fun c c' y y' h1 h2 => h.inj c c' y y' (live c h1) (live c' h2), fun c y h1 => h.free c y (live c h1), fun c y h1 => h.own c y (live c h1), fun r hr => by rw [hw.size]; exact h.frz r hr, ?_⟩, h.dkOne hb hx hw⟩
  · by_cases e : c = b
    · subst e; simp only [upG, if_true] at hc; cases hc
      exact ⟨x, o, hx, hw.here, hk.mono ρ.le_refl Φ.le_refl hst⟩
    · simp only [upG, if_neg e] at hc
      obtain ⟨y, o', h1, h2, h3⟩ := h.at_ c k'' hc
      exact ⟨y, o', h1, (hw.other _ fun e' => e (h.inj c b y x (by rw [hc]; simp) hne h1 hx e')).trans h2, h3.mono ρ.le_refl Φ.le_refl hst⟩
  · exact h.keep.one hw (h.own b x hne hx)
theorem Post.rename (h : Mem Wr w0 ρ Φ G w) {b nx : Nat} (hρ : ρ nx = none) {k k' : ABlk} {x y : Nat × Nat × Nat} {o : Obj} (hb : G b = some k) (hx : ρ b = some x) (hy : y.1 = x.1) (hw : OneNew w w' x.1 o) (hk : BlkAt ρ Φ w y k' o) :
    Post Wr w0 ρ Φ w nx (nx + 1) [b] (upG (upG G b none) nx (some k')) (ρ.upd nx y) Φ w' := by
  have hne : G b ≠ none := by rw [hb]; simp
  have hle := Env.le_upd y hρ
  have hst : ∀ r, Φ r → w'.heap[r]? = w.heap[r]? := fun r hr => hw.other r (by rintro rfl; exact h.free b x hne hx hr)
  have live : ∀ c, c ≠ nx → upG (upG G b none) nx (some k') c ≠ none → c ≠ b ∧ G c ≠ none := fun c hc hl => by
    unfold upG at hl; rw [if_neg hc] at hl
    by_cases e : c = b
    · rw [if_pos e] at hl; exact absurd rfl hl
    · rw [if_neg e] at hl; exact ⟨e, hl⟩
  refine ⟨hle, fun c hc => ?_, Φ.le_refl, fun _ h => .inl h, hw.keeps _ ⟨b, by simp, x, hx, rfl⟩, hst, fun c z _ h1 h2 => ?_, ⟨fun c k'' hc => ?_, fun c c' z z' h1 h2 h3 h4 h5 => ?_, fun c z h1 h2 => ?_, fun c z h1 h2 => ?_, fun r hr => by rw [hw.size]; exact h.frz r hr, h.keep.one hw (h.own b x hne hx)⟩, h.dkOne hb hx hw⟩
  · by_cases e : c = nx
    · subst e; exact .inr ⟨Nat.le_refl _, Nat.lt_succ_self _⟩
    · rw [Env.upd_ne _ _ e] at hc; exact .inl hc
  · by_cases e : c = nx
    · subst e; rw [Env.upd_same] at h2; cases h2; exact .inr ⟨b, by simp, x, hx, hy.symm⟩
    · rw [Env.upd_ne _ _ e, h1] at h2; cases h2
  · by_cases e : c = nx
    · subst e; simp only [upG, if_true] at hc; cases hc
      exact ⟨y, o, Env.upd_same _ _ _, by rw [hy]; exact hw.here, hk.mono hle Φ.le_refl hst⟩
    · obtain ⟨e1, e2⟩ := live c e (by rw [hc]; simp)
      simp only [upG, if_neg e, if_neg e1] at hc
      obtain ⟨z, o', h1, h2, h3⟩ := h.at_ c k'' hc
      exact ⟨z, o', hle _ _ h1, (hw.other _ fun e' => e1 (h.inj c b z x e2 hne h1 hx e')).trans h2, h3.mono hle Φ.le_refl hst⟩
  · by_cases e1 : c = nx
    · by_cases e2 : c' = nx
      · rw [e1, e2]
      · subst e1; rw [Env.upd_same] at h3; rw [Env.upd_ne _ _ e2] at h4; cases h3
        obtain ⟨e3, e4⟩ := live c' e2 h2
        exact absurd (h.inj c' b z' x e4 hne h4 hx (h5.symm.trans hy)) e3
    · by_cases e2 : c' = nx
      · subst e2; rw [Env.upd_same] at h4; rw [Env.upd_ne _ _ e1] at h3; cases h4
        obtain ⟨e3, e4⟩ := live c e1 h1
        exact absurd (h.inj c b z x e4 hne h3 hx (h5.trans hy)) e3
      · rw [Env.upd_ne _ _ e1] at h3; rw [Env.upd_ne _ _ e2] at h4
        exact h.inj c c' z z' (live c e1 h1).2 (live c' e2 h2).2 h3 h4 h5
  · by_cases e : c = nx
    · subst e; rw [Env.upd_same] at h2; cases h2; rw [hy]; exact h.free b x hne hx
    · rw [Env.upd_ne _ _ e] at h2; exact h.free c z (live c e h1).2 h2
  · by_cases e : c = nx
    · subst e; rw [Env.upd_same] at h2; cases h2; rw [hy]; exact h.own b x hne hx
    · rw [Env.upd_ne _ _ e] at h2; exact h.own c z (live c e h1).2 h2
theorem Mem.freeze (h : Mem Wr w0 ρ Φ G w) {b : Nat} {x : Nat × Nat × Nat} (hx : ρ b = some x) (hb : G b ≠ none) : Mem Wr w0 ρ (fun r => Φ r ∨ r = x.1) (upG G b none) w := by
  have live : ∀ c, upG G b none c ≠ none → c ≠ b ∧ G c ≠ none := fun c hl => by
    unfold upG at hl
    by_cases e : c = b
    · rw [if_pos e] at hl; exact absurd rfl hl
    · rw [if_neg e] at hl; exact ⟨e, hl⟩
  refine ⟨fun c k hc => ?_, fun c c' z z' h1 h2 => h.inj c c' z z' (live c h1).2 (live c' h2).2, fun c z h1 h2 => ?_, fun c z h1 => h.own c z (live c h1).2, fun r hr => ?_, h.keep⟩
  · obtain ⟨e1, _⟩ := live c (by rw [hc]; simp)
    simp only [upG, if_neg e1] at hc
    obtain ⟨z, o, h1, h2, h3⟩ := h.at_ c k hc
    exact ⟨z, o, h1, h2, h3.mono ρ.le_refl (fun _ h => .inl h) fun _ _ => rfl⟩
  · obtain ⟨e1, e2⟩ := live c h1
    rintro (hp | hp)
    · exact h.free c z e2 h2 hp
    · exact e1 (h.inj c b z x e2 hb h2 hx hp)
  · rcases hr with hr | rfl
    · exact h.frz r hr
    · exact h.lt hb hx
end
end Go.AE
end

section
namespace Go.AE
open Go.RowKit
def cvS : Value → Option AV
  | .bool b => some (.bool b)
  | .int k n => some (.int k n)
  | .string s => some (.str s)
  | .pointer none => some .nilp
  | .slice none 0 0 => some .nils
  | .map none => some .nilm
  | .nilFunc => some .nilf
  | .nilIface => some .nili
  | _ => none
def cvSL : List Value → Option (List AV)
  | [] => some []
  | v :: vs => match cvS v, cvSL vs with
    | some x, some y => some (x :: y)
    | _, _ => none
def cvA : Value → Option AV
  | .agg cs => (cvSL cs.toList).map .agg
  | .func (.func f) ⟨[]⟩ ⟨[]⟩ => some (.fn f [] [])
  | v => cvS v
def cvAL : List Value → Option (List AV)
  | [] => some []
  | v :: vs => match cvA v, cvAL vs with
    | some x, some y => some (x :: y)
    | _, _ => none
def cv : Value → Option AV
  | .tuple vs => (cvAL vs.toList).map .tup
  | v => cvA v
section
variable {ρ : Env} {Φ : Fz} {w : World}
theorem cvS_con {v : Value} {x : AV} (h : cvS v = some x) : Con ρ Φ w x v := by
  unfold cvS at h
  split at h <;> first | (cases h; simp [Con]; done) | cases h
theorem cvSL_con : ∀ {l : List Value} {x : List AV}, cvSL l = some x → ConL ρ Φ w x l
  | [], x, h => by simp only [cvSL] at h; cases h; exact conL_nil
  | v :: vs, x, h => by
    simp only [cvSL] at h
    split at h
    · rename_i p q hp hq; cases h; exact conL_cons (cvS_con hp) (cvSL_con hq)
    · cases h
theorem cvA_con {v : Value} {x : AV} (h : cvA v = some x) : Con ρ Φ w x v := by
  unfold cvA at h
  split at h
  · simp only [Option.map_eq_some_iff] at h
    obtain ⟨l, hl, rfl⟩ := h
    simp only [Con]; exact ⟨_, cvSL_con hl, rfl⟩
  · cases h; simp only [Con]; exact ⟨[], [], conL_nil, conL_nil, rfl⟩
  · exact cvS_con h
theorem cvAL_con : ∀ {l : List Value} {x : List AV}, cvAL l = some x → ConL ρ Φ w x l
  | [], x, h => by simp only [cvAL] at h; cases h; exact conL_nil
  | v :: vs, x, h => by
    simp only [cvAL] at h
    split at h
    · rename_i p q hp hq; cases h; exact conL_cons (cvA_con hp) (cvAL_con hq)
    · cases h
theorem cv_con {v : Value} {x : AV} (h : cv v = some x) : Con ρ Φ w x v := by
  unfold cv at h
  split at h
  · simp only [Option.map_eq_some_iff] at h
    obtain ⟨l, hl, rfl⟩ := h
    simp only [Con]; exact ⟨_, cvAL_con hl, rfl⟩
  · exact cvA_con h
end
abbrev AT := List (Nat × AV)
def ev (T : AT) : Operand → Option AV
  | .tmp t => lk T t
  | .const v => cv v
  | .func f => some (.fn f [] [])
  | .global _ => none
theorem ev_con {ρ : Env} {Φ : Fz} {w : World} {T : AT} {nt : Nat} {a : Act} (h : TmpsAt ρ Φ w T nt a.tmps) : ∀ {x : Operand} {v : AV}, ev T x = some v → Con ρ Φ w v (a.eval x)
  | .tmp t, v, e => by
    obtain ⟨y, h1, h2⟩ := h.at_ t v e
    simp only [Act.eval, Array.getD_eq_getD_getElem?, h2, Option.getD_some]; exact h1
  | .const c, v, e => cv_con e
  | .func f, v, e => by cases e; simp only [Con, Act.eval]; exact ⟨[], [], conL_nil, conL_nil, rfl⟩
  | .global g, v, e => by cases e
def evL (T : AT) : List Operand → Option (List AV)
  | [] => some []
  | x :: xs => match ev T x, evL T xs with
    | some v, some vs => some (v :: vs)
    | _, _ => none
theorem evL_con {ρ : Env} {Φ : Fz} {w : World} {T : AT} {nt : Nat} {a : Act} (h : TmpsAt ρ Φ w T nt a.tmps) : ∀ {xs : List Operand} {vs : List AV}, evL T xs = some vs → ConL ρ Φ w vs (xs.map a.eval)
  | [], vs, e => by simp only [evL] at e; cases e; exact conL_nil
  | x :: xs, vs, e => by
    simp only [evL] at e
    split at e
    · rename_i v l h1 h2; cases e; exact conL_cons (ev_con h h1) (evL_con h h2)
    · cases e
structure Ctx where
  P : Program
  w0 : World
  Wr : Nat → Prop
  Φ0 : Fz
  round : Option Nat
  nt : Nat
  k0 : Nat
  ρ0 : Env
def Ctx.F (C : Ctx) : Fence := { Fence.wide with round := C.round }
def OpU (C : Ctx) (o : Oper) (T : AT) (H : AH) (nx : Nat) (v : AV) (ups : AH) (nx' : Nat) : Prop :=
  ∀ (ρ : Env) (Φ : Fz) (a : Act) (w : World), (∀ b, nx ≤ b → b < nx' → ρ b = none) → TmpsAt ρ Φ w T C.nt a.tmps → Mem C.Wr C.w0 ρ Φ (gt H) w →
    ∀ (K : Act → World → Prop) (Q : Exit → Act → World → Prop),
      (∀ ρ' Φ' x w', Post C.Wr C.w0 ρ Φ w nx nx' (ups.map (·.1)) (gt (ups ++ H)) ρ' Φ' w' → Con ρ' Φ' w' v x → K (a.put o.dst x) w') → o.wpIn C.F 0 C.P a w K Q
section
variable {C : Ctx} {o : Oper} {T : AT} {H : AH} {nx nx' : Nat} {v : AV} {ups : AH}
theorem wp_of_run (hd : ∀ c, o.op ≠ .defer c) {a : Act} {w w' : World} {x : Value} {K : Act → World → Prop} {Q : Exit → Act → World → Prop}
    (h : (execOp a.eval o).run C.P w = .ok (.value x) w' ∨ ((execOp a.eval o).run C.P w = .ok .skip w' ∧ x = undef)) (k : K (a.put o.dst x) w') : o.wpIn C.F 0 C.P a w K Q := by
  refine ⟨fun _ _ => trivial, ?_⟩
  rw [Oper.semAt_eq _ _ _ hd]
  rcases h with h | ⟨h, rfl⟩ <;> rw [h] <;> exact k
theorem OpU.of_run (hd : ∀ c, o.op ≠ .defer c)
    (h : ∀ (ρ : Env) (Φ : Fz) (a : Act) (w : World), (∀ b, nx ≤ b → b < nx' → ρ b = none) → TmpsAt ρ Φ w T C.nt a.tmps → Mem C.Wr C.w0 ρ Φ (gt H) w →
      ∃ ρ' Φ' x w', ((execOp a.eval o).run C.P w = .ok (.value x) w' ∨ ((execOp a.eval o).run C.P w = .ok .skip w' ∧ x = undef)) ∧
        Post C.Wr C.w0 ρ Φ w nx nx' (ups.map (·.1)) (gt (ups ++ H)) ρ' Φ' w' ∧ Con ρ' Φ' w' v x) : OpU C o T H nx v ups nx' :=
  fun ρ Φ a w h1 h2 h3 _ _ k => let ⟨ρ', Φ', x, w', hr, hp, hc⟩ := h ρ Φ a w h1 h2 h3; wp_of_run hd hr (k ρ' Φ' x w' hp hc)
theorem OpU.of_value (hd : ∀ c, o.op ≠ .defer c)
    (h : ∀ (ρ : Env) (Φ : Fz) (a : Act) (w : World), TmpsAt ρ Φ w T C.nt a.tmps → Mem C.Wr C.w0 ρ Φ (gt H) w →
      ∃ x, (execOp a.eval o).run C.P w = .ok (.value x) w ∧ Con ρ Φ w v x) : OpU C o T H nx v [] nx :=
  OpU.of_run hd fun ρ Φ a w _ h2 h3 => let ⟨x, hr, hc⟩ := h ρ Φ a w h2 h3; ⟨ρ, Φ, x, w, .inl hr, Post.same h3 nx, hc⟩
end
section ops
variable {C : Ctx} {T : AT} {H : AH} {nx : Nat} {d : Option Tmp} {ty : TypeId} {pos : String} {after : Array Edge} {g : Option (Nat × Bool)}
theorem U_move {x : Operand} {v : AV} (h : ev T x = some v) : OpU C ⟨d, .move x, ty, pos, after, g⟩ T H nx v [] nx :=
  OpU.of_value (by intro c; simp) fun _ _ _ _ h2 _ => ⟨_, rfl, ev_con h2 h⟩
theorem U_assign {x : Operand} {v : AV} (h : ev T x = some v) : OpU C ⟨d, .assign x, ty, pos, after, g⟩ T H nx v [] nx :=
  OpU.of_value (by intro c; simp) fun _ _ _ _ h2 _ => ⟨_, rfl, ev_con h2 h⟩
theorem con_bool {ρ : Env} {Φ : Fz} {w : World} {b : Bool} {x : Value} (h : Con ρ Φ w (.bool b) x) : x = .bool b := by simpa only [Con] using h
theorem con_int {ρ : Env} {Φ : Fz} {w : World} {k : IntKind} {n : Int} {x : Value} (h : Con ρ Φ w (.int k n) x) : x = .int k n := by simpa only [Con] using h
theorem mk_int {ρ : Env} {Φ : Fz} {w : World} {k : IntKind} {n : Int} : Con ρ Φ w (.int k n) (.int k n) := by simp only [Con]
theorem mk_bool {ρ : Env} {Φ : Fz} {w : World} {b : Bool} : Con ρ Φ w (.bool b) (.bool b) := by simp only [Con]
theorem U_pick {c x y : Operand} {b : Bool} {u v : AV} (hc : ev T c = some (.bool b)) (hx : b = true → ev T x = some u) (hy : b = false → ev T y = some v) :
    OpU C ⟨d, .pick c x y, ty, pos, after, g⟩ T H nx (if b then u else v) [] nx :=
  OpU.of_value (by intro c; simp) fun ρ Φ a w h2 _ => by
    refine ⟨if b then a.eval x else a.eval y, ?_, ?_⟩
    · simp [execOp, con_bool (ev_con h2 hc), asBool]
    · cases b
      · exact ev_con h2 (hy rfl)
      · exact ev_con h2 (hx rfl)
theorem U_pick_t {c x y : Operand} {u : AV} (hc : ev T c = some (.bool true)) (hx : ev T x = some u) : OpU C ⟨d, .pick c x y, ty, pos, after, g⟩ T H nx u [] nx := by
  simpa using U_pick (C := C) (H := H) (nx := nx) (d := d) (ty := ty) (pos := pos) (after := after) (g := g) (v := u) (y := y) hc (fun _ => hx) (fun h => by cases h)
theorem U_pick_f {c x y : Operand} {u : AV} (hc : ev T c = some (.bool false)) (hx : ev T y = some u) : OpU C ⟨d, .pick c x y, ty, pos, after, g⟩ T H nx u [] nx := by
  simpa using U_pick (C := C) (H := H) (nx := nx) (d := d) (ty := ty) (pos := pos) (after := after) (g := g) (u := u) (x := x) hc (fun h => by cases h) (fun _ => hx)
theorem U_extract {t : Operand} {i : Nat} {vs : List AV} {v : AV} (h : ev T t = some (.tup vs)) (hi : vs[i]? = some v) : OpU C ⟨d, .extract t i, ty, pos, after, g⟩ T H nx v [] nx :=
  OpU.of_value (by intro c; simp) fun ρ Φ a w h2 _ => by
    have := ev_con h2 h
    simp only [Con] at this
    obtain ⟨xs, h1, h3⟩ := this
    obtain ⟨y, hy, hy2⟩ := conL_get h1 i v hi
    exact ⟨y, by simp [execOp, h3, Instr.extract, hy2], hy⟩
theorem U_not {x : Operand} {b : Bool} {t : TypeId} (h : ev T x = some (.bool b)) : OpU C ⟨d, .unOp .not t x, ty, pos, after, g⟩ T H nx (.bool (!b)) [] nx :=
  OpU.of_value (by intro c; simp) fun ρ Φ a w h2 _ => ⟨.bool (!b), by simp [execOp, con_bool (ev_con h2 h), Op.unary], mk_bool⟩
section num
variable {x y : Operand} {k : IntKind} {a b c : Int} {t t' : TypeId}
theorem binInt {op : BinOp} {s : Sem Value} (hx : ev T x = some (.int k a)) (hy : ev T y = some (.int k b)) (hs : binOp op t (.int k a) (.int k b) = s) (hg : op ≠ .shl ∧ op ≠ .shr) {v : AV} (hr : ∀ w, ∃ z, s.run C.P w = .ok z w ∧ ∀ ρ Φ, Con ρ Φ w v z) :
    OpU C ⟨d, .binOp op t x y t', ty, pos, after, g⟩ T H nx v [] nx :=
  OpU.of_value (by intro c; simp) fun ρ Φ ac w h2 _ => by
    obtain ⟨z, hz, hc⟩ := hr w
    refine ⟨z, ?_, hc ρ Φ⟩
    have e : eqGuard op t x y (.int k a) (.int k b) = pure () := by
      unfold eqGuard; split <;> rfl
    simp [execOp, con_int (ev_con h2 hx), con_int (ev_con h2 hy), e, hs, hz]
theorem U_add (hx : ev T x = some (.int k a)) (hy : ev T y = some (.int k b)) (hc : k.wrap (a + b) = c) : OpU C ⟨d, .binOp .add t x y t', ty, pos, after, g⟩ T H nx (.int k c) [] nx :=
  binInt hx hy rfl (by simp) fun w => ⟨.int k c, by simp [binOp, Op.intArith, hc], fun _ _ => mk_int⟩
theorem U_sub (hx : ev T x = some (.int k a)) (hy : ev T y = some (.int k b)) (hc : k.wrap (a - b) = c) : OpU C ⟨d, .binOp .sub t x y t', ty, pos, after, g⟩ T H nx (.int k c) [] nx :=
  binInt hx hy rfl (by simp) fun w => ⟨.int k c, by simp [binOp, Op.intArith, hc], fun _ _ => mk_int⟩
theorem U_rem (hx : ev T x = some (.int k a)) (hy : ev T y = some (.int k b)) (h0 : b ≠ 0) (hc : a.tmod b = c) : OpU C ⟨d, .binOp .rem t x y t', ty, pos, after, g⟩ T H nx (.int k c) [] nx :=
  binInt hx hy rfl (by simp) fun w => ⟨.int k c, by simp [binOp, Op.intDiv, h0, hc], fun _ _ => mk_int⟩
theorem U_eql (hx : ev T x = some (.int k a)) (hy : ev T y = some (.int k b)) : OpU C ⟨d, .binOp .eql t x y t', ty, pos, after, g⟩ T H nx (.bool (decide (a = b))) [] nx :=
  binInt hx hy rfl (by simp) fun w => ⟨.bool (decide (a = b)), by simp [binOp, Op.intCmp]; rfl, fun _ _ => mk_bool⟩
theorem U_neq (hx : ev T x = some (.int k a)) (hy : ev T y = some (.int k b)) : OpU C ⟨d, .binOp .neq t x y t', ty, pos, after, g⟩ T H nx (.bool (decide (a ≠ b))) [] nx :=
  binInt hx hy rfl (by simp) fun w => ⟨.bool (decide (a ≠ b)), by simp [binOp, Op.intCmp, bne]; rfl, fun _ _ => mk_bool⟩
theorem U_lss (hx : ev T x = some (.int k a)) (hy : ev T y = some (.int k b)) : OpU C ⟨d, .binOp .lss t x y t', ty, pos, after, g⟩ T H nx (.bool (decide (a < b))) [] nx :=
  binInt hx hy rfl (by simp) fun w => ⟨.bool (decide (a < b)), by simp [binOp, Op.intCmp], fun _ _ => mk_bool⟩
theorem U_leq (hx : ev T x = some (.int k a)) (hy : ev T y = some (.int k b)) : OpU C ⟨d, .binOp .leq t x y t', ty, pos, after, g⟩ T H nx (.bool (decide (a ≤ b))) [] nx :=
  binInt hx hy rfl (by simp) fun w => ⟨.bool (decide (a ≤ b)), by simp [binOp, Op.intCmp], fun _ _ => mk_bool⟩
theorem U_gtr (hx : ev T x = some (.int k a)) (hy : ev T y = some (.int k b)) : OpU C ⟨d, .binOp .gtr t x y t', ty, pos, after, g⟩ T H nx (.bool (decide (b < a))) [] nx :=
  binInt hx hy rfl (by simp) fun w => ⟨.bool (decide (b < a)), by simp [binOp, Op.intCmp], fun _ _ => mk_bool⟩
theorem U_geq (hx : ev T x = some (.int k a)) (hy : ev T y = some (.int k b)) : OpU C ⟨d, .binOp .geq t x y t', ty, pos, after, g⟩ T H nx (.bool (decide (b ≤ a))) [] nx :=
  binInt hx hy rfl (by simp) fun w => ⟨.bool (decide (b ≤ a)), by simp [binOp, Op.intCmp], fun _ _ => mk_bool⟩
end num
end ops
end Go.AE
end

section
namespace Go.AE
open Go.RowKit
class TyVar (P : Program) (t : TypeId) (agg : outParam Bool) (n : outParam Nat) : Prop where
  isagg : ∀ w, (isAgg t).run P w = .ok agg w
  size : ∀ w, (Go.sizeOf t).run P w = .ok n w
  one : agg = false → n = 1
class TyZero (P : Program) (t : TypeId) (z : outParam (List AV)) : Prop where
  zero : ∃ v, (∀ w, (zeroValue t).run P w = .ok v w) ∧ cvSL v.cells.toList = some z
class TyField (P : Program) (s : TypeId) (f : Nat) (off : outParam Nat) : Prop where
  run : ∀ r o w, (Instr.fieldAt s (.pointer (some ⟨r, o, none⟩)) f).run P w = .ok (.pointer (some ⟨r, o + off, none⟩)) w
class TyPart (P : Program) (t : TypeId) (f : Nat) (off ft : outParam Nat) : Prop where
  run : ∀ cs w, (Instr.field t (.agg cs) f).run P w = (part ft cs off).run P w
class TySl (P : Program) (t : TypeId) (e n : outParam Nat) : Prop where
  un : P.underlying t = some (.slice e)
  size : ∀ w, (Go.sizeOf e).run P w = .ok n w
class TyAr (P : Program) (t : TypeId) (len e n : outParam Nat) : Prop where
  un : P.underlying t = some (.array len e)
  size : ∀ w, (Go.sizeOf e).run P w = .ok n w
class TyBuild (P : Program) (t : TypeId) (z : outParam (List AV)) (place : outParam (Nat → Option (Nat × Nat))) : Prop where
  run : ∃ zv : Array Value, cvSL zv.toList = some z ∧ ∀ parts cs w, Instr.fill place zv parts.toList = some cs → (Instr.build t parts).run P w = .ok (.agg cs) w
class TyBytes (P : Program) (t : TypeId) (b : outParam Nat) : Prop where
  bytes : ∃ i, (∀ w, (typeInfo t).run P w = .ok i w) ∧ i.bytes = b
class FnOk (P : Program) (f : FuncId) : Prop where
  run : ∀ args w, (callFunc f args).run P w = .ok (.enter f args) w
class TyInt (P : Program) (t : TypeId) (k : outParam IntKind) : Prop where
  un : P.underlying t = some (.int k)
theorem add_at (r o n : Nat) : (⟨r, o, none⟩ : Addr).add n = ⟨r, o + n, none⟩ := by
  unfold Addr.add; split
  · rename_i h; subst h; rfl
  · rfl
theorem run_loadCells {P : Program} {w : World} {r base : Nat} {xs : List Value} (h : At w r base xs) (o : Nat) : ∀ (n i : Nat) (acc : Array Value), o + i + n ≤ xs.length →
    (loadCellsFrom ⟨r, base + o, none⟩ i n acc).run P w = .ok (acc ++ ((xs.drop (o + i)).take n).toArray) w
  | 0, i, acc, _ => by simp [loadCellsFrom]
  | n + 1, i, acc, hl => by
    have h1 : o + i < xs.length := by omega
    have hc := h (o + i) xs[o + i] (by simp [h1])
    unfold loadCellsFrom
    rw [add_at]
    rw [← Nat.add_assoc] at hc
    have hld : (load ⟨r, base + o + i, none⟩).run P w = .ok xs[o + i] w := by rw [run_load, hc]
    rw [Sem.run_bind, hld, Result.andThen_ok, run_loadCells h o n (i + 1) _ (by omega)]
    rw [List.drop_eq_getElem_cons h1, List.take_succ_cons]
    congr 1
    apply Array.ext'
    simp [Nat.add_assoc]
def src (H : AH) : AV → Option (List AV × Nat)
  | .ptr b o => match gt H b with
    | some (.cells cs _) => some (cs, o)
    | _ => none
  | .rop cs o => some (cs, o)
  | _ => none
theorem at_of_cells {w : World} {r : Nat} {pre xs rest : List Value} {t : TypeId} {fz : Nat × Nat} (h : w.heap[r]? = some (.cells (pre ++ xs ++ rest).toArray t fz)) : At w r pre.length xs := fun i v hi => by
  simp only [World.cell?, h]
  have hlt := (List.getElem?_eq_some_iff.1 hi).1
  simp only [Option.isSome_none, Bool.false_eq_true, if_false, List.getElem?_toArray]
  rw [List.append_assoc, List.getElem?_append_right (by omega), Nat.add_sub_cancel_left, List.getElem?_append_left hlt]; exact hi
section
variable {C : Ctx} {ρ : Env} {Φ : Fz} {H : AH} {w : World}
theorem src_con {Wr : Nat → Prop} {w0 : World} (hm : Mem Wr w0 ρ Φ (gt H) w) {p : AV} {x : Value} {cs : List AV} {o : Nat} (hs : src H p = some (cs, o)) (h : Con ρ Φ w p x) :
    ∃ r base xs, x = .pointer (some ⟨r, base + o, none⟩) ∧ ConL ρ Φ w cs xs ∧ At w r base xs := by
  unfold src at hs
  split at hs
  · split at hs
    · rename_i b o' cs' t hg
      cases hs
      simp only [Con] at h
      obtain ⟨y, h1, h2⟩ := h
      obtain ⟨z, ob, h3, h4, h5⟩ := hm.at_ _ _ hg
      rw [h1] at h3; cases h3
      obtain ⟨pre, xs, rest, h6, h7, _, h9⟩ := h5
      subst h9
      exact ⟨y.1, y.2.1, xs, h2, h6, h7 ▸ at_of_cells h4⟩
    · cases hs
  · cases hs
    simp only [Con] at h
    obtain ⟨r, base, xs, _, h2, h3, h4, _⟩ := h
    exact ⟨r, base, xs, h2, h3, h4⟩
  · cases hs
end
section ops
variable {C : Ctx} {T : AT} {H : AH} {nx : Nat} {d : Option Tmp} {ty : TypeId} {pos : String} {after : Array Edge} {g : Option (Nat × Bool)}
theorem U_load1 {t : TypeId} {x : Operand} {p v : AV} {cs : List AV} {o n : Nat} [hT : TyVar C.P t false n] (hx : ev T x = some p) (hs : src H p = some (cs, o)) (hv : cs[o]? = some v) :
    OpU C ⟨d, .load t x, ty, pos, after, g⟩ T H nx v [] nx :=
  OpU.of_value (by intro c; simp) fun ρ Φ a w h2 h3 => by
    obtain ⟨r, base, xs, e1, e2, e3⟩ := src_con h3 hs (ev_con h2 hx)
    obtain ⟨y, hy, hy2⟩ := conL_get e2 o v hv
    have hc := e3 o y hy2
    have hld : (load ⟨r, base + o, none⟩).run C.P w = .ok y w := by rw [run_load, hc]
    refine ⟨y, ?_, hy⟩
    simp only [execOp, Instr.loadAt, e1, Instr.sureAddr, loadVar, Sem.run_bind, Sem.run_pure, Result.andThen_ok, hT.isagg, Bool.false_eq_true, if_false, hld]
theorem U_loadA {t : TypeId} {x : Operand} {p : AV} {cs vs : List AV} {o n : Nat} [hT : TyVar C.P t true n] (hx : ev T x = some p) (hs : src H p = some (cs, o)) (hl : o + n ≤ cs.length) (hv : (cs.drop o).take n = vs) :
    OpU C ⟨d, .load t x, ty, pos, after, g⟩ T H nx (.agg vs) [] nx :=
  OpU.of_value (by intro c; simp) fun ρ Φ a w h2 h3 => by
    obtain ⟨r, base, xs, e1, e2, e3⟩ := src_con h3 hs (ev_con h2 hx)
    have hlen := conL_len e2
    have hld := run_loadCells (P := C.P) e3 o n 0 #[] (by omega)
    refine ⟨.agg ((xs.drop o).take n).toArray, ?_, ?_⟩
    · simp only [execOp, Instr.loadAt, e1, Instr.sureAddr, loadVar, Sem.run_bind, Sem.run_pure, Result.andThen_ok, hT.isagg, if_true, hT.size, loadCells, hld]
      simp
    · simp only [Con]; exact ⟨_, hv ▸ conL_take n (conL_drop o e2), rfl⟩
theorem take2 {cs : List AV} {o : Nat} {a b : AV} (h0 : cs[o]? = some a) (h1 : cs[o + 1]? = some b) : o + 2 ≤ cs.length ∧ (cs.drop o).take 2 = [a, b] := by
  obtain ⟨l0, e0⟩ := List.getElem?_eq_some_iff.1 h0
  obtain ⟨l1, e1⟩ := List.getElem?_eq_some_iff.1 h1
  refine ⟨by omega, ?_⟩
  rw [List.drop_eq_getElem_cons l0, List.drop_eq_getElem_cons l1, e0, e1]; rfl
theorem take3 {cs : List AV} {o : Nat} {a b c : AV} (h0 : cs[o]? = some a) (h1 : cs[o + 1]? = some b) (h2 : cs[o + 1 + 1]? = some c) : o + 3 ≤ cs.length ∧ (cs.drop o).take 3 = [a, b, c] := by
  obtain ⟨l0, e0⟩ := List.getElem?_eq_some_iff.1 h0
  obtain ⟨l2, e2⟩ := take2 h1 h2
  refine ⟨by omega, ?_⟩
  rw [List.drop_eq_getElem_cons l0, e0, List.take_succ_cons, e2]
theorem take4 {cs : List AV} {o : Nat} {a b c e : AV} (h0 : cs[o]? = some a) (h1 : cs[o + 1]? = some b) (h2 : cs[o + 1 + 1]? = some c) (h3 : cs[o + 1 + 1 + 1]? = some e) : o + 4 ≤ cs.length ∧ (cs.drop o).take 4 = [a, b, c, e] := by
  obtain ⟨l0, e0⟩ := List.getElem?_eq_some_iff.1 h0
  obtain ⟨l2, e2⟩ := take3 h1 h2 h3
  refine ⟨by omega, ?_⟩
  rw [List.drop_eq_getElem_cons l0, e0, List.take_succ_cons, e2]
theorem U_load2 {t : TypeId} {x : Operand} {p v0 v1 : AV} {cs : List AV} {o : Nat} [TyVar C.P t true 2] (hx : ev T x = some p) (hs : src H p = some (cs, o)) (h0 : cs[o]? = some v0) (h1 : cs[o + 1]? = some v1) :
    OpU C ⟨d, .load t x, ty, pos, after, g⟩ T H nx (.agg [v0, v1]) [] nx := U_loadA hx hs (take2 h0 h1).1 (take2 h0 h1).2
theorem U_load3 {t : TypeId} {x : Operand} {p v0 v1 v2 : AV} {cs : List AV} {o : Nat} [TyVar C.P t true 3] (hx : ev T x = some p) (hs : src H p = some (cs, o)) (h0 : cs[o]? = some v0) (h1 : cs[o + 1]? = some v1) (h2 : cs[o + 1 + 1]? = some v2) :
    OpU C ⟨d, .load t x, ty, pos, after, g⟩ T H nx (.agg [v0, v1, v2]) [] nx := U_loadA hx hs (take3 h0 h1 h2).1 (take3 h0 h1 h2).2
theorem U_load4 {t : TypeId} {x : Operand} {p v0 v1 v2 v3 : AV} {cs : List AV} {o : Nat} [TyVar C.P t true 4] (hx : ev T x = some p) (hs : src H p = some (cs, o)) (h0 : cs[o]? = some v0) (h1 : cs[o + 1]? = some v1) (h2 : cs[o + 1 + 1]? = some v2) (h3 : cs[o + 1 + 1 + 1]? = some v3) :
    OpU C ⟨d, .load t x, ty, pos, after, g⟩ T H nx (.agg [v0, v1, v2, v3]) [] nx := U_loadA hx hs (take4 h0 h1 h2 h3).1 (take4 h0 h1 h2 h3).2
theorem U_loadAll {t : TypeId} {x : Operand} {p : AV} {cs : List AV} {n : Nat} [TyVar C.P t true n] (hx : ev T x = some p) (hs : src H p = some (cs, 0)) (hl : cs.length = n) :
    OpU C ⟨d, .load t x, ty, pos, after, g⟩ T H nx (.agg cs) [] nx := U_loadA hx hs (by omega) (by subst hl; simp)
theorem Post.more {Wr : Nat → Prop} {w0 w w' : World} {ρ ρ' : Env} {Φ Φ' : Fz} {nx nx' : Nat} {l l' : List Nat} {G' : Nat → Option ABlk} (h : Post Wr w0 ρ Φ w nx nx' l G' ρ' Φ' w') (hl : ∀ b ∈ l, b ∈ l') : Post Wr w0 ρ Φ w nx nx' l' G' ρ' Φ' w' :=
  have hi : ∀ r, img ρ l r → img ρ l' r := fun _ ⟨b, hb, x, h1, h2⟩ => ⟨b, hl b hb, x, h1, h2⟩
  ⟨h.le, h.dom, h.fle, fun r hr => (h.fnew r hr).imp id (Or.imp id fun h1 => ⟨hi r h1.1, h1.2⟩), h.keep.mono fun r _ => hi r, h.stab, fun b x h0 h1 h2 => (h.bnew b x h0 h1 h2).imp id (hi _), h.mem, h.dk⟩
theorem new_at {Wr : Nat → Prop} {w0 : World} {ρ : Env} {Φ : Fz} {w : World} (hm : Mem Wr w0 ρ Φ (gt H) w) (hd : ∀ b, nx ≤ b → b < nx + 1 → ρ b = none) {cs : List AV} {xs : List Value} (t : TypeId) (hc : ConL ρ Φ w cs xs) :
    Post Wr w0 ρ Φ w nx (nx + 1) (([(nx, some (ABlk.cells cs t))] : AH).map (·.1)) (gt ([(nx, some (.cells cs t))] ++ H)) (ρ.upd nx (w.heap.size, 0, xs.length)) Φ (w.alloc (.cells xs.toArray t)) := by
  have := Post.new hm (hd nx (Nat.le_refl _) (Nat.lt_succ_self _)) 0 xs.length (k := .cells cs t) (o := .cells xs.toArray t) ⟨[], xs, [], hc, rfl, by simp, by simp⟩
  rw [List.cons_append, List.nil_append, gt_upG]
  exact this.more (by simp)
theorem mk_ptr {ρ : Env} {Φ : Fz} {w : World} {b : Nat} {y : Nat × Nat × Nat} (h : ρ b = some y) (o : Nat) : Con ρ Φ w (.ptr b o) (.pointer (some ⟨y.1, y.2.1 + o, none⟩)) := by
  simp only [Con]; exact ⟨y, h, rfl⟩
theorem U_alloc {t : TypeId} {z : List AV} [hz : TyZero C.P t z] : OpU C ⟨d, .alloc t, ty, pos, after, g⟩ T H nx (.ptr nx 0) [(nx, some (.cells z t))] (nx + 1) :=
  OpU.of_run (by intro c; simp) fun ρ Φ a w h1 _ h3 => by
    obtain ⟨v, hv, hc⟩ := hz.zero
    have := new_at h3 h1 t (cvSL_con (ρ := ρ) (Φ := Φ) (w := w) hc)
    refine ⟨_, _, .pointer (some ⟨w.heap.size, 0, none⟩), _, .inl ?_, this, by simpa using mk_ptr (Env.upd_same ρ nx _) 0⟩
    simp [execOp, Instr.alloc, hv, newVar, newRow]
def AV.cellsA : AV → List AV
  | .agg cs => cs
  | v => [v]
theorem con_cells {ρ : Env} {Φ : Fz} {w : World} {v : AV} {x : Value} (h : Con ρ Φ w v x) : ConL ρ Φ w v.cellsA x.cells.toList := by
  cases v
  case agg cs => simp only [Con] at h; obtain ⟨xs, h1, rfl⟩ := h; simpa [AV.cellsA, Value.cells] using h1
  all_goals
    have h' := h
    simp only [Con] at h'
    simp only [AV.cellsA]
    first
      | (subst h'; exact conL_cons h conL_nil)
      | (rcases h' with ⟨_, ⟨_, rfl⟩, _⟩ | ⟨_, _, _, _, _, rfl, _⟩ <;> exact conL_cons h conL_nil)
      | (rcases h' with ⟨_, rfl⟩ | ⟨_, _, _, _, _, _, rfl⟩ <;> exact conL_cons h conL_nil)
      | (obtain ⟨_, _, rfl⟩ := h'; exact conL_cons h conL_nil)
      | (obtain ⟨_, _, _, _, _, rfl⟩ := h'; exact conL_cons h conL_nil)
      | (obtain ⟨_, _, _, _, rfl, _, _⟩ := h'; exact conL_cons h conL_nil)
      | (obtain ⟨_, _, _, _, _, rfl, _⟩ := h'; exact conL_cons h conL_nil)
      | (obtain ⟨_, _, _, _, rfl, _⟩ := h'; exact conL_cons h conL_nil)
      | (obtain ⟨_, _, _, _, rfl⟩ := h'; exact conL_cons h conL_nil)
theorem U_box {t : TypeId} {x : Operand} {v : AV} {cs : List AV} (hx : ev T x = some v) (hc : v.cellsA = cs) : OpU C ⟨d, .box t x, ty, pos, after, g⟩ T H nx (.ptr nx 0) [(nx, some (.cells cs t))] (nx + 1) :=
  OpU.of_run (by intro c; simp) fun ρ Φ a w h1 h2 h3 => by
    have := new_at h3 h1 t (hc ▸ con_cells (ev_con h2 hx))
    refine ⟨_, _, .pointer (some ⟨w.heap.size, 0, none⟩), _, .inl ?_, this, by simpa using mk_ptr (Env.upd_same ρ nx _) 0⟩
    simp [execOp, Instr.box, newVar, newRow]
def AV.one : AV → Bool
  | .agg _ | .tup _ => false
  | _ => true
theorem one_con {ρ : Env} {Φ : Fz} {w : World} {v : AV} {x : Value} (h : Con ρ Φ w v x) (h1 : v.one = true) : x.oneCell' = true := by
  cases v
  case agg cs => cases h1
  case tup cs => cases h1
  all_goals
    simp only [Con] at h
    first
      | (subst h; rfl)
      | (rcases h with ⟨_, ⟨_, rfl⟩, _⟩ | ⟨_, _, _, _, _, rfl, _⟩ <;> rfl)
      | (rcases h with ⟨_, rfl⟩ | ⟨_, _, _, _, _, _, rfl⟩ <;> rfl)
      | (obtain ⟨_, _, rfl⟩ := h; rfl)
      | (obtain ⟨_, _, _, _, _, rfl⟩ := h; rfl)
      | (obtain ⟨_, _, _, _, rfl, _, _⟩ := h; rfl)
      | (obtain ⟨_, _, _, _, _, rfl, _⟩ := h; rfl)
      | (obtain ⟨_, _, _, _, rfl, _⟩ := h; rfl)
      | (obtain ⟨_, _, _, _, rfl⟩ := h; rfl)
def setC {α : Type} : List α → Nat → List α → List α
  | cs, _, [] => cs
  | cs, o, v :: vs => setC (cs.set o v) (o + 1) vs
theorem setC_len {α : Type} : ∀ (vs cs : List α) (o : Nat), (setC cs o vs).length = cs.length
  | [], cs, o => rfl
  | v :: vs, cs, o => by simp [setC, setC_len vs]
theorem conL_setC {ρ : Env} {Φ : Fz} {w : World} : ∀ {vs cs : List AV} {ys xs : List Value} (o : Nat), ConL ρ Φ w cs xs → ConL ρ Φ w vs ys → ConL ρ Φ w (setC cs o vs) (setC xs o ys)
  | [], cs, _, xs, o, h, k => by simp only [ConL] at k; subst k; simpa [setC] using h
  | v :: vs, cs, _, xs, o, h, k => by obtain ⟨y, ys, rfl, h1, h2⟩ := conL_inv k; exact conL_setC (o + 1) (conL_set o h h1) h2
theorem OneNew.refl {w : World} {r : Nat} {o : Obj} (h : w.heap[r]? = some o) : OneNew w w r o := ⟨rfl, rfl, rfl, rfl, h, fun _ _ => rfl⟩
theorem OneNew.setCell {w : World} {r off : Nat} {c : Array Value} {t : TypeId} {fz : Nat × Nat} (h : w.heap[r]? = some (.cells c t fz)) (v : Value) : OneNew w (w.setCell ⟨r, off, none⟩ v) r (.cells (c.setIfInBounds off v) t fz) :=
  ⟨rfl, rfl, rfl, by simp [World.setCell], by simp [World.setCell, Array.getElem?_modify, h], fun i hi => by simp only [World.setCell, Array.getElem?_modify]; rw [if_neg (by omega)]⟩
theorem run_storeCells {P : Program} {pre rest : List Value} {t : TypeId} {r : Nat} (o : Nat) : ∀ (vs xs : List Value) (i : Nat) (w : World), w.heap[r]? = some (.cells (pre ++ xs ++ rest).toArray t (0, 0)) → o + i + vs.length ≤ xs.length → (∀ v ∈ vs, v.oneCell' = true) →
    ∃ w', (storeCells ⟨r, pre.length + o, none⟩ vs i).run P w = .ok () w' ∧ OneNew w w' r (.cells (pre ++ setC xs (o + i) vs ++ rest).toArray t (0, 0))
  | [], xs, i, w, h, _, _ => ⟨w, by simp [storeCells], OneNew.refl h⟩
  | v :: vs, xs, i, w, h, hl, h1 => by
    simp only [List.length_cons] at hl
    have hlt : o + i < xs.length := by omega
    have hc := at_of_cells h (o + i) xs[o + i] (by simp [hlt])
    have hfz : w.frozen? ⟨r, pre.length + o + i, none⟩ = false := by simp [World.frozen?, h]
    rw [← Nat.add_assoc] at hc
    have hst : (store ⟨r, pre.length + o + i, none⟩ v).run P w = .ok () (w.setCell ⟨r, pre.length + o + i, none⟩ v) := by
      rw [run_store _ _ _ _ _ (h1 v (by simp)), hc]; simp [hfz]
    have hone := OneNew.setCell (off := pre.length + o + i) h v
    have he : (pre ++ xs ++ rest).toArray.setIfInBounds (pre.length + o + i) v = (pre ++ xs.set (o + i) v ++ rest).toArray := by
      rw [List.setIfInBounds_toArray, Nat.add_assoc, List.append_assoc, List.append_assoc, List.set_append, if_neg (by omega), Nat.add_sub_cancel_left, List.set_append, if_pos hlt]
    rw [he] at hone
    obtain ⟨w', hw1, hw2⟩ := run_storeCells (P := P) (pre := pre) (rest := rest) (t := t) (r := r) o vs (xs.set (o + i) v) (i + 1) _ hone.here (by simp; omega) (fun u hu => h1 u (by simp [hu]))
    refine ⟨w', ?_, hone.trans (by simpa [setC, Nat.add_assoc] using hw2)⟩
    unfold storeCells
    rw [add_at, Sem.run_bind, hst, Result.andThen_ok, hw1]
theorem conL_one {ρ : Env} {Φ : Fz} {w : World} : ∀ {vs : List AV} {xs : List Value}, ConL ρ Φ w vs xs → (∀ v ∈ vs, v.one = true) → ∀ x ∈ xs, x.oneCell' = true
  | [], _, h, _, x, hx => by simp only [ConL] at h; subst h; simp at hx
  | v :: vs, _, h, h1, x, hx => by
    obtain ⟨y, ys, rfl, h2, h3⟩ := conL_inv h
    rcases List.mem_cons.1 hx with rfl | hx
    · exact one_con h2 (h1 v (by simp))
    · exact conL_one h3 (fun u hu => h1 u (by simp [hu])) x hx
theorem set_at {Wr : Nat → Prop} {w0 w w' : World} {ρ : Env} {Φ : Fz} {b : Nat} {cs cs' : List AV} {t : TypeId} (hm : Mem Wr w0 ρ Φ (gt H) w) (hg : gt H b = some (.cells cs t)) {y : Nat × Nat × Nat} (hy : ρ b = some y)
    {pre xs xs' rest : List Value} (hc : ConL ρ Φ w cs' xs') (hp : pre.length = y.2.1) (hr : y.2.2 = xs.length + rest.length) (hl : xs'.length = xs.length) (hw : OneNew w w' y.1 (.cells (pre ++ xs' ++ rest).toArray t (0, 0))) :
    Post Wr w0 ρ Φ w nx nx (([(b, some (ABlk.cells cs' t))] : AH).map (·.1)) (gt ([(b, some (.cells cs' t))] ++ H)) ρ Φ w' := by
  have := Post.set hm nx hg hy hw (k' := .cells cs' t) ⟨pre, xs', rest, hc, hp, by rw [hl]; exact hr, rfl⟩
  rw [List.cons_append, List.nil_append, gt_upG]
  exact this
theorem U_store {t tb : TypeId} {x y : Operand} {b o n : Nat} {v : AV} {cs vs cs' : List AV} {ag : Bool} [hT : TyVar C.P t ag n] (hx : ev T x = some (.ptr b o)) (hy : ev T y = some v) (hg : gt H b = some (.cells cs tb)) (hv : v.cellsA = vs) (hn : vs.length = n) (hl : o + n ≤ cs.length)
    (h1 : vs.all AV.one = true) (hs : setC cs o vs = cs') : OpU C ⟨d, .store t x y, ty, pos, after, g⟩ T H nx (.tup []) [(b, some (.cells cs' tb))] nx :=
  OpU.of_run (by intro c; simp) fun ρ Φ a w _ h2 h3 => by
    have hp := ev_con h2 hx
    simp only [Con] at hp
    obtain ⟨z, hz, hp⟩ := hp
    obtain ⟨z', ob, e1, e2, e3⟩ := h3.at_ _ _ hg
    rw [hz] at e1; cases e1
    obtain ⟨pre, xs, rest, e4, e5, e6, rfl⟩ := e3
    have hcv := con_cells (ev_con h2 hy)
    rw [hv] at hcv
    have hlen := conL_len hcv
    have hlx := conL_len e4
    obtain ⟨w', hw1, hw2⟩ := run_storeCells (P := C.P) o (a.eval y).cells.toList xs 0 w e2 (by omega) (conL_one hcv (by simpa using h1))
    refine ⟨ρ, Φ, undef, w', .inr ⟨?_, rfl⟩, ?_, by simp [Con, undef, ConL]⟩
    · have hsz : (a.eval y).cells.size = n := by rw [← hn, ← hlen]; simp
      rw [e5] at hw1
      simp only [execOp, Instr.storeAt, hp, Instr.sureAddr, storeVar, Sem.run_bind, Sem.run_pure, Result.andThen_ok, hT.size, hsz, ne_eq, not_true_eq_false, if_false, hw1]
    · subst hs
      exact set_at h3 hg hz (conL_setC o e4 hcv) e5 e6 (by rw [setC_len]) hw2
theorem U_store1 {t tb : TypeId} {x y : Operand} {b n : Nat} {v u : AV} [hT : TyVar C.P t false n] (hx : ev T x = some (.ptr b 0)) (hy : ev T y = some v) (hg : gt H b = some (.cells [u] tb)) (h1 : v.one = true) :
    OpU C ⟨d, .store t x y, ty, pos, after, g⟩ T H nx (.tup []) [(b, some (.cells [v] tb))] nx := by
  have hv : v.cellsA = [v] := by cases v <;> first | rfl | cases h1
  have hn := hT.one rfl
  subst hn
  exact U_store hx hy hg hv rfl (by simp) (by simp [h1]) rfl
theorem U_storeAll {t tb : TypeId} {x y : Operand} {b n : Nat} {cs vs : List AV} [hT : TyVar C.P t true n] (hx : ev T x = some (.ptr b 0)) (hy : ev T y = some (.agg vs)) (hg : gt H b = some (.cells cs tb)) (hn : vs.length = n) (hl : cs.length = n) (h1 : vs.all AV.one = true) :
    OpU C ⟨d, .store t x y, ty, pos, after, g⟩ T H nx (.tup []) [(b, some (.cells vs tb))] nx :=
  U_store hx hy hg rfl hn (by omega) h1 (by
    have : ∀ (vs cs pre : List AV), vs.length = cs.length → setC (pre ++ cs) pre.length vs = pre ++ vs := by
      intro vs
      induction vs with
      | nil => intro cs pre h; cases cs with
        | nil => rfl
        | cons => simp at h
      | cons v vs ih => intro cs pre h; cases cs with
        | nil => simp at h
        | cons c cs =>
          have h2 : (pre ++ c :: cs).set pre.length v = pre ++ [v] ++ cs := by simp
          have := ih cs (pre ++ [v]) (by simpa using h)
          rw [setC, h2]
          simpa using this
    have h' := this vs cs [] (by omega)
    simpa only [List.nil_append, List.length_nil, AV.cellsA] using h')
theorem U_fieldAddr {s : TypeId} {x : Operand} {f b o off : Nat} [hT : TyField C.P s f off] (hx : ev T x = some (.ptr b o)) : OpU C ⟨d, .fieldAddr s x f, ty, pos, after, g⟩ T H nx (.ptr b (o + off)) [] nx :=
  OpU.of_value (by intro c; simp) fun ρ Φ a w h2 _ => by
    have hp := ev_con h2 hx
    simp only [Con] at hp
    obtain ⟨z, hz, hp⟩ := hp
    refine ⟨.pointer (some ⟨z.1, z.2.1 + o + off, none⟩), by simp [execOp, hp, hT.run], ?_⟩
    simp only [Con]; exact ⟨z, hz, by rw [Nat.add_assoc]⟩
theorem U_fieldAddrR {s : TypeId} {x : Operand} {f o off : Nat} {cs : List AV} [hT : TyField C.P s f off] (hx : ev T x = some (.rop cs o)) : OpU C ⟨d, .fieldAddr s x f, ty, pos, after, g⟩ T H nx (.rop cs (o + off)) [] nx :=
  OpU.of_value (by intro c; simp) fun ρ Φ a w h2 _ => by
    have hp := ev_con h2 hx
    simp only [Con] at hp
    obtain ⟨r, base, xs, h1, h3, h4, h5, h6⟩ := hp
    refine ⟨.pointer (some ⟨r, base + o + off, none⟩), by simp [execOp, h3, hT.run], ?_⟩
    simp only [Con]; exact ⟨r, base, xs, h1, by rw [Nat.add_assoc], h4, h5, h6⟩
theorem U_nilCheck {x : Operand} {b o : Nat} (hx : ev T x = some (.ptr b o)) : OpU C ⟨d, .nilCheck x, ty, pos, after, g⟩ T H nx (.ptr b o) [] nx :=
  OpU.of_value (by intro c; simp) fun ρ Φ a w h2 _ => by
    have hp := ev_con h2 hx
    refine ⟨a.eval x, ?_, hp⟩
    simp only [Con] at hp
    obtain ⟨z, hz, hp⟩ := hp
    simp [execOp, hp]
theorem U_nilCheckR {x : Operand} {o : Nat} {cs : List AV} (hx : ev T x = some (.rop cs o)) : OpU C ⟨d, .nilCheck x, ty, pos, after, g⟩ T H nx (.rop cs o) [] nx :=
  OpU.of_value (by intro c; simp) fun ρ Φ a w h2 _ => by
    have hp := ev_con h2 hx
    refine ⟨a.eval x, ?_, hp⟩
    simp only [Con] at hp
    obtain ⟨r, base, xs, h1, h3, h4, h5⟩ := hp
    simp [execOp, h3]
def cellsAt (agg : Bool) (cs : List AV) (o n : Nat) : Option AV :=
  match agg with
  | true => if o + n ≤ cs.length then some (.agg ((cs.drop o).take n)) else none
  | false => cs[o]?
theorem U_indexS {t : TypeId} {x i : Operand} {k : IntKind} {b o n c e z j : Nat} {m : Int} [hT : TySl C.P t e z] (hx : ev T x = some (.slice b o n c)) (hi : ev T i = some (.int k m)) (hj : m = j) (hlt : j < n) :
    OpU C ⟨d, .indexAddr t x i, ty, pos, after, g⟩ T H nx (.ptr b (o + j * z)) [] nx :=
  OpU.of_value (by intro c; simp) fun ρ Φ a w h2 _ => by
    subst hj
    have hp := ev_con h2 hx
    simp only [Con] at hp
    obtain ⟨y, hy, hp⟩ := hp
    refine ⟨.pointer (some ⟨y.1, y.2.1 + o + j * z, none⟩), ?_, ?_⟩
    · simp [execOp, hp, con_int (ev_con h2 hi), Instr.indexAt, asIntOf, run_underlying hT.un, hT.size, hlt, add_at]
    · simp only [Con]; exact ⟨y, hy, by rw [Nat.add_assoc]⟩
theorem U_indexSo {t : TypeId} {x i : Operand} {k : IntKind} {b o n zz e z j : Nat} {m : Int} [hT : TySl C.P t e z] (hx : ev T x = some (.sliceo b o n zz)) (hi : ev T i = some (.int k m)) (hj : m = j) (hlt : j < n) :
    OpU C ⟨d, .indexAddr t x i, ty, pos, after, g⟩ T H nx (.ptr b (o + j * z)) [] nx :=
  OpU.of_value (by intro c; simp) fun ρ Φ a w h2 _ => by
    subst hj
    have hp := ev_con h2 hx
    simp only [Con] at hp
    obtain ⟨y, k', hy, _, _, hp⟩ := hp
    refine ⟨.pointer (some ⟨y.1, y.2.1 + o + j * z, none⟩), ?_, ?_⟩
    · simp [execOp, hp, con_int (ev_con h2 hi), Instr.indexAt, asIntOf, run_underlying hT.un, hT.size, hlt, add_at]
    · simp only [Con]; exact ⟨y, hy, by rw [Nat.add_assoc]⟩
theorem U_indexR {t : TypeId} {x i : Operand} {k : IntKind} {n e z j : Nat} {c : Option Nat} {cs : List AV} {m : Int} [hT : TySl C.P t e z] (hx : ev T x = some (.ros cs n c)) (hi : ev T i = some (.int k m)) (hj : m = j) (hlt : j < n) :
    OpU C ⟨d, .indexAddr t x i, ty, pos, after, g⟩ T H nx (.rop cs (j * z)) [] nx :=
  OpU.of_value (by intro c; simp) fun ρ Φ a w h2 _ => by
    subst hj
    have hp := ev_con h2 hx
    simp only [Con] at hp
    obtain ⟨r, base, xs, k', h1, hp, _, _, h5, h6, h7⟩ := hp.resolve_left fun h => by omega
    refine ⟨.pointer (some ⟨r, base + j * z, none⟩), ?_, ?_⟩
    · simp [execOp, hp, con_int (ev_con h2 hi), Instr.indexAt, asIntOf, run_underlying hT.un, hT.size, hlt, add_at]
    · simp only [Con]; exact ⟨r, base, xs, h1, rfl, h5, h6, h7⟩
theorem U_indexA {t : TypeId} {x i : Operand} {k : IntKind} {b o n e z j : Nat} {m : Int} [hT : TyAr C.P t n e z] (hx : ev T x = some (.ptr b o)) (hi : ev T i = some (.int k m)) (hj : m = j) (hlt : j < n) :
    OpU C ⟨d, .indexAddr t x i, ty, pos, after, g⟩ T H nx (.ptr b (o + j * z)) [] nx :=
  OpU.of_value (by intro c; simp) fun ρ Φ a w h2 _ => by
    subst hj
    have hp := ev_con h2 hx
    simp only [Con] at hp
    obtain ⟨y, hy, hp⟩ := hp
    refine ⟨.pointer (some ⟨y.1, y.2.1 + o + j * z, none⟩), ?_, ?_⟩
    · simp [execOp, hp, con_int (ev_con h2 hi), Instr.indexAt, Instr.sureAddr, asIntOf, run_underlying hT.un, hT.size, hlt, add_at]
    · simp only [Con]; exact ⟨y, hy, by rw [Nat.add_assoc]⟩
theorem U_indexAR {t : TypeId} {x i : Operand} {k : IntKind} {o n e z j : Nat} {cs : List AV} {m : Int} [hT : TyAr C.P t n e z] (hx : ev T x = some (.rop cs o)) (hi : ev T i = some (.int k m)) (hj : m = j) (hlt : j < n) :
    OpU C ⟨d, .indexAddr t x i, ty, pos, after, g⟩ T H nx (.rop cs (o + j * z)) [] nx :=
  OpU.of_value (by intro c; simp) fun ρ Φ a w h2 _ => by
    subst hj
    have hp := ev_con h2 hx
    simp only [Con] at hp
    obtain ⟨r, base, xs, h1, hp, h4, h5, h6⟩ := hp
    refine ⟨.pointer (some ⟨r, base + o + j * z, none⟩), ?_, ?_⟩
    · simp [execOp, hp, con_int (ev_con h2 hi), Instr.indexAt, Instr.sureAddr, asIntOf, run_underlying hT.un, hT.size, hlt, add_at]
    · simp only [Con]; exact ⟨r, base, xs, h1, by rw [Nat.add_assoc], h4, h5, h6⟩
theorem U_makeFunc {f : FuncId} {fi ca : Array Operand} {xs ys : List AV} (h1 : evL T fi.toList = some xs) (h2 : evL T ca.toList = some ys) : OpU C ⟨d, .makeFunc (.func f) fi ca, ty, pos, after, g⟩ T H nx (.fn f xs ys) [] nx :=
  OpU.of_value (by intro c; simp) fun ρ Φ a w h3 _ => by
    refine ⟨.func (.func f) (fi.map a.eval) (ca.map a.eval), by simp [execOp, Instr.makeFunc], ?_⟩
    simp only [Con]
    exact ⟨_, _, evL_con h3 h1, evL_con h3 h2, by simp [← Array.toList_map]⟩
theorem U_lenOf {t rt : TypeId} {x : Operand} {v : AV} {n : Nat} {e z : Nat} [hT : TySl C.P t e z] (hx : ev T x = some v)
    (hv : ∀ ρ Φ w y, Con ρ Φ w v y → ∃ a k, y = .slice a n k) : OpU C ⟨d, .call ⟨.builtin .len, #[x], #[t]⟩, rt, pos, after, g⟩ T H nx (.int .i64 n) [] nx :=
  OpU.of_value (by intro c; simp) fun ρ Φ a w h2 _ => by
    obtain ⟨ad, k, hy⟩ := hv ρ Φ w _ (ev_con h2 hx)
    refine ⟨.int .i64 n, ?_, mk_int⟩
    simp [execOp, resolve, invoke, builtin, Builtin.len_, hy, run_underlying hT.un, goInt]
theorem len_sliceo {b o n z : Nat} : ∀ (ρ : Env) Φ w y, Con ρ Φ w (.sliceo b o n z) y → ∃ a k, y = .slice a n k := fun _ _ _ _ h => by simp only [Con] at h; obtain ⟨_, _, _, _, _, h⟩ := h; exact ⟨_, _, h⟩
theorem len_out {b n z : Nat} : ∀ (ρ : Env) Φ w y, Con ρ Φ w (.out b n z) y → ∃ a k, y = .slice a n k := fun _ _ _ _ h => by simp only [Con] at h; rcases h with ⟨rfl, h⟩ | ⟨_, _, _, _, _, _, h⟩ <;> exact ⟨_, _, h⟩
theorem len_ros {cs : List AV} {n : Nat} {c : Option Nat} : ∀ (ρ : Env) Φ w y, Con ρ Φ w (.ros cs n c) y → ∃ a k, y = .slice a n k := fun _ _ _ _ h => by simp only [Con] at h; rcases h with ⟨rfl, ⟨_, h⟩, _⟩ | ⟨_, _, _, _, _, h, _⟩ <;> exact ⟨_, _, h⟩
end ops
end Go.AE
end

section
namespace Go.AE
open Go.RowKit
structure St where
  T : AT
  H : AH
  nx : Nat
  df : List Nat
def Coll (n0 : Nat) (Φ : Fz) (w : World) (ds : List Deferred) : Prop := ∃ ys : List Nat, ds = ys.map (fun y => { target := .collected y, args := #[] }) ∧ ys.Nodup ∧ ∀ y ∈ ys, n0 ≤ y ∧ w.heap[y]? = some dObj ∧ ¬ Φ y
theorem Coll.nil (n0 : Nat) (Φ : Fz) (w : World) : Coll n0 Φ w [] := ⟨[], rfl, List.nodup_nil, fun _ h => by simp at h⟩
theorem Coll.mono {n0 : Nat} {Φ Φ' : Fz} {w w' : World} {ds : List Deferred} (h : Coll n0 Φ w ds) (k : Dk Φ w Φ' w') : Coll n0 Φ' w' ds := let ⟨ys, h1, h2, h3⟩ := h; ⟨ys, h1, h2, fun y hy => ⟨(h3 y hy).1, k y (h3 y hy).2.1 (h3 y hy).2.2⟩⟩
theorem Coll.cons {n0 : Nat} {Φ : Fz} {w : World} {ds : List Deferred} (h : Coll n0 Φ w ds) (hn : n0 ≤ w.heap.size) (hf : ∀ r, Φ r → r < w.heap.size) : Coll n0 Φ (w.alloc dObj) ({ target := .collected w.heap.size, args := #[] } :: ds) := by
  obtain ⟨ys, rfl, h2, h3⟩ := h
  have hl : ∀ y ∈ ys, y < w.heap.size := fun y hy => (Array.getElem?_eq_some_iff.1 (h3 y hy).2.1).1
  refine ⟨w.heap.size :: ys, rfl, List.nodup_cons.2 ⟨fun hm => by have := hl _ hm; omega, h2⟩, fun y hy => ?_⟩
  rcases List.mem_cons.1 hy with rfl | hy
  · exact ⟨hn, heap_alloc_new w _, fun hp => by have := hf _ hp; omega⟩
  · exact ⟨(h3 y hy).1, (((Below.refl _ _).alloc (Nat.le_refl _) dObj).block y (hl y hy)).trans (h3 y hy).2.1, (h3 y hy).2.2⟩
structure Conc (C : Ctx) (s : St) (ρ : Env) (Φ : Fz) (a : Act) (w : World) : Prop where
  dom : ∀ b, ρ b ≠ none → b < s.nx
  tm : TmpsAt ρ Φ w s.T C.nt a.tmps
  mem : Mem C.Wr C.w0 ρ Φ (gt s.H) w
  df : Coll C.w0.heap.size Φ w a.defers
  fz : (∀ r, Φ r → C.Φ0 r ∨ C.w0.heap.size ≤ r ∨ C.Wr r) ∧ C.Φ0.le Φ
  base : ∀ b, b < C.k0 → ρ b = C.ρ0 b
  kn : C.k0 ≤ s.nx
  dk : Dk C.Φ0 C.w0 Φ w
theorem Conc.fresh {C : Ctx} {s : St} {ρ : Env} {Φ : Fz} {a : Act} {w : World} (h : Conc C s ρ Φ a w) {n : Nat} : ∀ b, s.nx ≤ b → b < n → ρ b = none := fun b h1 _ => by
  cases e : ρ b with
  | none => rfl
  | some x => have := h.dom b (by rw [e]; simp); omega
def putT (d : Option Tmp) (v : AV) (T : AT) : AT :=
  match d with
  | some d => (d, v) :: T
  | none => T
theorem TmpsAt.put {ρ : Env} {Φ : Fz} {w : World} {T : AT} {nt : Nat} {a : Act} (h : TmpsAt ρ Φ w T nt a.tmps) {d : Option Tmp} {v : AV} {x : Value} (hx : Con ρ Φ w v x) (hd : d.all (· < nt) = true) : TmpsAt ρ Φ w (putT d v T) nt (a.put d x).tmps := by
  cases d with
  | none => exact h
  | some d =>
    refine ⟨by simp [Act.put, h.size], fun i u hi => ?_⟩
    simp only [putT, lk_cons] at hi
    simp only [Act.put, Array.getElem?_setIfInBounds]
    by_cases e : d = i
    · rw [if_pos e] at hi; cases hi
      have : d < a.tmps.size := by rw [h.size]; simpa using hd
      exact ⟨x, hx, by simp [e, e ▸ this]⟩
    · rw [if_neg e] at hi; rw [if_neg e]
      exact h.at_ i u hi
theorem put_defers (a : Act) (d : Option Tmp) (x : Value) : (a.put d x).defers = a.defers := by cases d <;> rfl
theorem Conc.step {C : Ctx} {s : St} {ρ ρ' : Env} {Φ Φ' : Fz} {a : Act} {w w' : World} (h : Conc C s ρ Φ a w) {nx' : Nat} {ups : AH} {v : AV} {x : Value} {d : Option Tmp}
    (hp : Post C.Wr C.w0 ρ Φ w s.nx nx' (ups.map (·.1)) (gt (ups ++ s.H)) ρ' Φ' w') (hx : Con ρ' Φ' w' v x) (hd : d.all (· < C.nt) = true) (hn : s.nx ≤ nx') : Conc C ⟨putT d v s.T, ups ++ s.H, nx', s.df⟩ ρ' Φ' (a.put d x) w' where
  dom b hb := by
    rcases hp.dom b hb with h1 | h1
    · exact Nat.lt_of_lt_of_le (h.dom b h1) hn
    · exact h1.2
  tm := (h.tm.mono hp.le hp.fle hp.stab).put hx hd
  mem := hp.mem
  df := by rw [put_defers]; exact h.df.mono hp.dk
  dk := h.dk.trans hp.dk
  fz := ⟨fun r hr => (hp.fnew r hr).elim (h.fz.1 r) fun h1 => h1.elim (fun h2 => .inr (.inl (Nat.le_trans h.mem.keep.size h2))) fun h2 => .inr h2.2.symm, Fz.le_trans h.fz.2 hp.fle⟩
  base b h1 := by
    rw [← h.base b h1]
    cases e : ρ b with
    | some x => exact hp.le _ _ e
    | none =>
      cases e2 : ρ' b with
      | none => rfl
      | some y =>
        rcases hp.dom b (by rw [e2]; simp) with h2 | h2
        · exact absurd e h2
        · have := h.kn; omega
  kn := Nat.le_trans h.kn hn
def nth {α : Type} : List α → Nat → Option α
  | [], _ => none
  | a :: _, 0 => some a
  | _ :: l, n + 1 => nth l n
theorem nth_eq {α : Type} : ∀ (l : List α) (n : Nat), nth l n = l[n]?
  | [], n => by simp [nth]
  | a :: l, 0 => by simp [nth]
  | a :: l, n + 1 => by simp [nth, nth_eq l n]
def wantedA (ops : List Oper) (T : AT) (o : Oper) : Option Bool :=
  match o.guard with
  | none => some true
  | some (j, want) => match nth ops j with
    | some p => match p.dst with
      | some d => match lk T d with
        | some (.bool b) => some (b == want)
        | some (.tup []) => some false
        | _ => none
      | none => none
    | none => none
theorem wantedA_eq {ρ : Env} {Φ : Fz} {w : World} {T : AT} {nt : Nat} {ops : Array Oper} {tmps : Array Value} (h : TmpsAt ρ Φ w T nt tmps) {o : Oper} {c : Bool} (hc : wantedA ops.toList T o = some c) : Region.wanted o (yielded ops tmps) = c := by
  unfold wantedA at hc
  unfold Region.wanted
  split at hc
  · rename_i hg; rw [hg]; cases hc; rfl
  · rename_i j want hg
    rw [hg]
    simp only
    split at hc
    · rename_i p hp
      split at hc
      · rename_i d hd
        have hy : yielded ops tmps j = match tmps[d]? with | some (.bool b) => some b | _ => none := by
          rw [nth_eq, Array.getElem?_toList] at hp
          simp only [yielded, hp, hd, Option.bind_some]; rfl
        split at hc
        · rename_i b hb
          cases hc
          obtain ⟨x, h1, h2⟩ := h.at_ d _ hb
          rw [hy, h2, con_bool h1]; cases b <;> cases want <;> rfl
        · rename_i hb
          cases hc
          obtain ⟨x, h1, h2⟩ := h.at_ d _ hb
          simp only [Con, ConL] at h1
          obtain ⟨xs, rfl, rfl⟩ := h1
          rw [hy, h2]; cases want <;> rfl
        · cases hc
      · cases hc
    · cases hc
def Reg (C : Ctx) (ops : Array Oper) (i : Nat) (K : St → Prop) (s : St) : Prop :=
  ∀ ρ Φ a w, Conc C s ρ Φ a w → ∀ Q : Exit → Act → World → Prop, (∀ s' ρ' Φ' a' w', K s' → Conc C s' ρ' Φ' a' w' → Q .normal a' w') → wpOpsIn C.F 0 C.P ops Q (List.range' i (ops.size - i)) a w
section
variable {C : Ctx} {ops : Array Oper} {i : Nat} {K : St → Prop} {s : St}
theorem Reg_end (hi : nth ops.toList i = none) (h : K s) : Reg C ops i K s := fun ρ Φ a w hc Q hQ => by
  have : ops.size - i = 0 := by rw [nth_eq, Array.getElem?_toList, Array.getElem?_eq_none_iff] at hi; omega
  rw [this]; exact hQ s ρ Φ a w h hc
theorem range_at {o : Oper} (ho : nth ops.toList i = some o) : ops[i]? = some o ∧ List.range' i (ops.size - i) = i :: List.range' (i + 1) (ops.size - (i + 1)) := by
  rw [nth_eq, Array.getElem?_toList] at ho
  have := (Array.getElem?_eq_some_iff.1 ho).1
  refine ⟨ho, ?_⟩
  rw [show ops.size - i = (ops.size - (i + 1)) + 1 by omega, List.range'_succ]
theorem Reg_op {o : Oper} {v : AV} {ups : AH} {nx' : Nat} {c : Bool} (ho : nth ops.toList i = some o) (hg : wantedA ops.toList s.T o = some c) (hc : c = true) (hU : OpU C o s.T s.H s.nx v ups nx') (hd : o.dst.all (· < C.nt) = true) (hn : s.nx ≤ nx')
    (h : Reg C ops (i + 1) K ⟨putT o.dst v s.T, ups ++ s.H, nx', s.df⟩) : Reg C ops i K s := fun ρ Φ a w hcc Q hQ => by
  obtain ⟨h1, h2⟩ := range_at ho
  rw [h2]
  simp only [wpOpsIn, h1]
  rw [wantedA_eq hcc.tm hg, hc, if_pos rfl]
  exact hU ρ Φ a w hcc.fresh hcc.tm hcc.mem _ _ fun ρ' Φ' x w' hp hx => h ρ' Φ' _ w' (hcc.step hp hx hd hn) Q hQ
theorem Reg_skip {o : Oper} {c : Bool} (ho : nth ops.toList i = some o) (hg : wantedA ops.toList s.T o = some c) (hc : c = false) (hd : o.dst.all (· < C.nt) = true)
    (h : Reg C ops (i + 1) K ⟨putT o.dst (.tup []) s.T, s.H, s.nx, s.df⟩) : Reg C ops i K s := fun ρ Φ a w hcc Q hQ => by
  obtain ⟨h1, h2⟩ := range_at ho
  rw [h2]
  simp only [wpOpsIn, h1]
  rw [wantedA_eq hcc.tm hg, hc, if_neg (by simp)]
  refine ⟨fun _ _ => trivial, ?_⟩
  have := hcc.step (ups := []) (v := .tup []) (x := undef) (d := o.dst) (Post.same hcc.mem s.nx) (by simp [Con, undef, ConL]) hd (Nat.le_refl _)
  exact h ρ Φ _ w this Q hQ
end
def _root_.Go.Code.l : Code → Code
  | .seq a _ => a
  | .block _ b => b
  | .loop b => b
  | .cond _ t _ => t
  | .scope b => b
  | .rangeFunc _ _ a _ => a
  | c => c
def _root_.Go.Code.r : Code → Code
  | .seq _ b => b
  | .cond _ _ e => e
  | .rangeFunc _ _ _ b => b
  | c => c
def _root_.Go.Code.tag : Code → Nat
  | .skip => 0
  | .region _ _ false => 1
  | .region _ _ true => 2
  | .seq _ _ => 3
  | .cond _ _ _ => 4
  | .block _ _ => 5
  | .loop _ => 6
  | .rangeFunc _ _ _ _ => 7
  | .exit _ => 8
  | .scope _ => 9
  | .label _ => 10
  | .goto _ => 11
  | .ret => 12
  | .refuse _ => 13
def _root_.Go.Code.ops : Code → Array Oper
  | .region _ o _ => o
  | _ => #[]
def _root_.Go.Code.id : Code → Nat
  | .region i _ _ => i
  | .block i _ => i
  | .exit i => i
  | _ => 0
def _root_.Go.Code.c : Code → Operand
  | .cond c _ _ => c
  | .rangeFunc f _ _ _ => f
  | _ => default
def WpA (C : Ctx) (c : Code) (Q : Exit → St → Prop) (s : St) : Prop :=
  ∀ ρ Φ a w, Conc C s ρ Φ a w → c.wpIn C.F 0 C.P (fun e a' w' => ∃ s' ρ' Φ', Q e s' ∧ Conc C s' ρ' Φ' a' w') a w
def thenQ (N : St → Prop) (Q : Exit → St → Prop) : Exit → St → Prop
  | .normal, s => N s
  | e, s => Q e s
def blkQ (id : Nat) (Q : Exit → St → Prop) : Exit → St → Prop
  | .exit i, s => if i = id then Q .normal s else Q (.exit i) s
  | e, s => Q e s
section
variable {C : Ctx} {c : Code} {Q Q' : Exit → St → Prop} {s : St}
theorem thenQ_n {N : St → Prop} (h : N s) : thenQ N Q .normal s := h
theorem thenQ_x {N : St → Prop} {i : Nat} (h : Q (.exit i) s) : thenQ N Q (.exit i) s := h
theorem thenQ_r {N : St → Prop} (h : Q .ret s) : thenQ N Q .ret s := h
theorem blkQ_n {i : Nat} (h : Q .normal s) : blkQ i Q .normal s := h
theorem blkQ_r {i : Nat} (h : Q .ret s) : blkQ i Q .ret s := h
theorem blkQ_x {i j : Nat} (e : (j == i) = true) (h : Q .normal s) : blkQ i Q (.exit j) s := by simp only [blkQ]; rw [if_pos (by simpa using e)]; exact h
theorem WpA.mono (h : WpA C c Q s) (hq : ∀ e s, Q e s → Q' e s) : WpA C c Q' s := fun ρ Φ a w hc => wpIn_mono (h ρ Φ a w hc) fun _ _ _ ⟨s', ρ', Φ', q, k⟩ => ⟨s', ρ', Φ', hq _ _ q, k⟩
theorem tag_seq (h : c.tag = 3) : c = .seq c.l c.r := by
  cases c
  case seq => rfl
  case region i o d => cases d <;> cases h
  all_goals cases h
theorem tag_cond (h : c.tag = 4) : c = .cond c.c c.l c.r := by
  cases c
  case cond => rfl
  case region i o d => cases d <;> cases h
  all_goals cases h
theorem tag_block (h : c.tag = 5) : c = .block c.id c.l := by
  cases c
  case block => rfl
  case region i o d => cases d <;> cases h
  all_goals cases h
theorem tag_loop (h : c.tag = 6) : c = .loop c.l := by
  cases c
  case loop => rfl
  case region i o d => cases d <;> cases h
  all_goals cases h
theorem tag_reg (h : c.tag = 1) : c = .region c.id c.ops false := by
  cases c
  case region i o d => cases d <;> first | rfl | cases h
  all_goals cases h
theorem tag_draw (h : c.tag = 2) : c = .region c.id c.ops true := by
  cases c
  case region i o d => cases d <;> first | rfl | cases h
  all_goals cases h
theorem tag_exit (h : c.tag = 8) : c = .exit c.id := by
  cases c
  case exit => rfl
  case region i o d => cases d <;> cases h
  all_goals cases h
theorem tag_ret (h : c.tag = 12) : c = .ret := by
  cases c
  case ret => rfl
  case region i o d => cases d <;> cases h
  all_goals cases h
theorem tag_skip (h : c.tag = 0) : c = .skip := by
  cases c
  case skip => rfl
  case region i o d => cases d <;> cases h
  all_goals cases h
theorem W_skip (h : c.tag = 0) (k : Q .normal s) : WpA C c Q s := by
  rw [tag_skip h]; exact fun ρ Φ a w hc => wpIn_skip ⟨s, ρ, Φ, k, hc⟩
theorem W_exit (h : c.tag = 8) (k : Q (.exit c.id) s) : WpA C c Q s := by
  rw [tag_exit h]; exact fun ρ Φ a w hc => wpIn_exit ⟨s, ρ, Φ, k, hc⟩
theorem W_ret (h : c.tag = 12) (k : Q .ret s) : WpA C c Q s := by
  rw [tag_ret h]; exact fun ρ Φ a w hc => wpIn_ret ⟨s, ρ, Φ, k, hc⟩
theorem W_seq (h : c.tag = 3) (k : WpA C c.l (thenQ (WpA C c.r Q) Q) s) : WpA C c Q s := by
  rw [tag_seq h]
  refine fun ρ Φ a w hc => wpIn_seq (wpIn_mono (k ρ Φ a w hc) ?_)
  rintro e a' w' ⟨s', ρ', Φ', q, hc'⟩
  cases e with
  | normal => exact q ρ' Φ' a' w' hc'
  | _ => exact ⟨s', ρ', Φ', q, hc'⟩
theorem W_cond {b : Bool} (h : c.tag = 4) (hb : ev s.T c.c = some (.bool b)) (ht : b = true → WpA C c.l Q s) (hf : b = false → WpA C c.r Q s) : WpA C c Q s := by
  rw [tag_cond h]
  refine fun ρ Φ a w hc => wpIn_cond_split (con_bool (ev_con hc.tm hb)) (fun e => ht e ρ Φ a w hc) (fun e => hf e ρ Φ a w hc)
theorem W_condP {p : Prop} [Decidable p] (h : c.tag = 4) (hb : ev s.T c.c = some (.bool (decide p))) (ht : p → WpA C c.l Q s) (hf : ¬ p → WpA C c.r Q s) : WpA C c Q s :=
  W_cond h hb (fun e => ht (by simpa using e)) (fun e => hf (by simpa using e))
theorem W_block (h : c.tag = 5) (k : WpA C c.l (blkQ c.id Q) s) : WpA C c Q s := by
  rw [tag_block h]
  refine fun ρ Φ a w hc => wpIn_block (wpIn_mono (k ρ Φ a w hc) ?_)
  rintro e a' w' ⟨s', ρ', Φ', q, hc'⟩
  cases e with
  | exit i =>
    simp only [Exit.inBlock]
    simp only [blkQ] at q
    split
    · rename_i e; rw [if_pos e] at q; exact ⟨s', ρ', Φ', q, hc'⟩
    · rename_i e; rw [if_neg e] at q; exact ⟨s', ρ', Φ', q, hc'⟩
  | _ => exact ⟨s', ρ', Φ', q, hc'⟩
theorem W_reg (h : c.tag = 1) (k : Reg C c.ops 0 (fun s' => Q .normal s') s) : WpA C c Q s := by
  rw [tag_reg h]
  refine fun ρ Φ a w hc => wpIn_region ?_
  have := k ρ Φ a w hc (fun e a' w' => ∃ s' ρ' Φ', Q e s' ∧ Conc C s' ρ' Φ' a' w') fun s' ρ' Φ' a' w' q hc' => ⟨s', ρ', Φ', q, hc'⟩
  rw [Nat.sub_zero, ← List.range_eq_range'] at this
  exact this
theorem W_loop {c : Code} (h : c.tag = 6) (I : Nat → St → Prop) {n : Nat} (h0 : I n s) (round : ∀ n s, I n s → WpA C c.l (thenQ (fun s' => ∃ m, m < n ∧ I m s') Q) s) : WpA C c Q s := by
  rw [tag_loop h]
  intro ρ Φ a w hc b k cs hro hb hr
  have key : ∀ n s ρ Φ a w, I n s → Conc C s ρ Φ a w →
      ∃ e a' w', (∃ s' ρ' Φ', Q e s' ∧ Conc C s' ρ' Φ' a' w') ∧ ArrivesIn (Machine.fenced C.P C.F) C.P (lone (b.atR a (.code c.l :: .inLoop c.l :: k)) cs w) b k cs e a' w' := by
    intro n
    induction n using Nat.strongRecOn with
    | _ n ih =>
      intro s ρ Φ a w hI hc
      obtain ⟨e, a₁, w₁, ⟨s₁, ρ₁, Φ₁, hq, hc₁⟩, harr⟩ := round n s hI ρ Φ a w hc b (.inLoop c.l :: k) cs hro hb hr
      cases e with
      | normal =>
        obtain ⟨m, hm, hI₁⟩ := hq
        obtain ⟨e₂, a₂, w₂, hq₂, harr₂⟩ := ih m hm s₁ ρ₁ Φ₁ a₁ w₁ hI₁ hc₁
        exact ⟨e₂, a₂, w₂, hq₂, .of_steps (StepsIn.trans harr (.one (fenced_calm hb hr rfl) stepR_inLoop)) harr₂⟩
      | exit id => exact ⟨_, a₁, w₁, ⟨s₁, ρ₁, Φ₁, hq, hc₁⟩, .pass (x := .inLoop c.l) rfl (fun _ _ => .inl (by simp)) harr⟩
      | goto l => exact ⟨_, a₁, w₁, ⟨s₁, ρ₁, Φ₁, hq, hc₁⟩, .pass (x := .inLoop c.l) rfl (fun _ _ => .inl (by simp)) harr⟩
      | ret => exact ⟨_, a₁, w₁, ⟨s₁, ρ₁, Φ₁, hq, hc₁⟩, .pass (x := .inLoop c.l) rfl (fun _ _ => .inl (by simp)) harr⟩
      | panic ch => exact ⟨_, a₁, w₁, ⟨s₁, ρ₁, Φ₁, hq, hc₁⟩, .pass (x := .inLoop c.l) rfl (fun _ _ => .inl (by simp)) harr⟩
      | outgrown => exact ⟨_, a₁, w₁, ⟨s₁, ρ₁, Φ₁, hq, hc₁⟩, .pass (x := .inLoop c.l) rfl (fun _ _ => .inl (by simp)) harr⟩
  obtain ⟨e, a', w', hq, harr⟩ := key n s ρ Φ a w h0 hc
  exact ⟨e, a', w', hq, .of_steps (.one (fenced_calm hb hr rfl) stepR_loop) harr⟩
def Gh (C : Ctx) (s s' : St) : Prop := ∀ ρ Φ a w, Conc C s ρ Φ a w → ∃ ρ' Φ', Conc C s' ρ' Φ' a w
theorem Gh.refl : Gh C s s := fun ρ Φ _ _ h => ⟨ρ, Φ, h⟩
theorem Gh.trans {s' s'' : St} (h : Gh C s s') (k : Gh C s' s'') : Gh C s s'' := fun ρ Φ a w hc => let ⟨ρ', Φ', h1⟩ := h ρ Φ a w hc; k ρ' Φ' a w h1
theorem W_gh {s' : St} (h : Gh C s s') (k : WpA C c Q s') : WpA C c Q s := fun ρ Φ a w hc => let ⟨ρ', Φ', h1⟩ := h ρ Φ a w hc; k ρ' Φ' a w h1
theorem Reg_gh {ops : Array Oper} {i : Nat} {K : St → Prop} {s' : St} (h : Gh C s s') (k : Reg C ops i K s') : Reg C ops i K s := fun ρ Φ a w hc => let ⟨ρ', Φ', h1⟩ := h ρ Φ a w hc; k ρ' Φ' a w h1
mutual
/-- A value, when a block is turned no more. -/
def AV.fr (b : Nat) (cs : List AV) : AV → AV
  | .ptr b' o => if b'.beq b then .rop cs o else .ptr b' o
  | .slice b' o n c => if b'.beq b && n.ble c then .ros (cs.drop o) n (some c) else .slice b' o n c
  | .sliceo b' o n z => if b'.beq b then .ros (cs.drop o) n none else .sliceo b' o n z
  | .out b' n z => if b'.beq b then .ros (cs.drop 0) n none else .out b' n z
  | .agg l => .agg (frL b cs l)
  | .tup l => .tup (frL b cs l)
  | .fn f x y => .fn f (frL b cs x) (frL b cs y)
  | v => v
def frL (b : Nat) (cs : List AV) : List AV → List AV
  | [] => []
  | v :: l => v.fr b cs :: frL b cs l
end
def frT (b : Nat) (cs : List AV) : AT → AT
  | [] => []
  | (i, v) :: T => (i, v.fr b cs) :: frT b cs T
def frE (b : Nat) (cs : List AV) : List (AV × AV × Nat) → List (AV × AV × Nat)
  | [] => []
  | (k, v, n) :: T => (k.fr b cs, v.fr b cs, n) :: frE b cs T
def ABlk.fr (b : Nat) (cs : List AV) : ABlk → ABlk
  | .cells l t => .cells (frL b cs l) t
  | .map es ck => .map (frE b cs es) ck
  | .iter v s l c => .iter (v.fr b cs) s l c
  | .loop st pending T nt params assign body d => .loop st pending (frT b cs T) nt params assign body d
  | k => k
def frH (b : Nat) (cs : List AV) : AH → AH
  | [] => []
  | (i, k) :: H => (i, k.map (ABlk.fr b cs)) :: frH b cs H
section
variable {ρ : Env} {Φ : Fz} {w : World} {b : Nat} {cs : List AV} {x : Nat × Nat × Nat} {xs : List Value}
mutual
theorem Con.fr (h1 : ρ b = some x) (hf : Φ x.1) (hxs : ConL ρ Φ w cs xs) (hat : At w x.1 x.2.1 xs) (hd : dataL cs) : ∀ (v : AV) {y : Value}, Con ρ Φ w v y → Con ρ Φ w (v.fr b cs) y
  | .bool _, _, h | .int _ _, _, h | .str _, _, h | .nilp, _, h | .nils, _, h | .nilm, _, h | .nilf, _, h | .nili, _, h | .rop _ _, _, h | .ros _ _ _, _, h | .rom _, _, h | .mapl _, _, h | .yld _, _, h => by simpa only [AV.fr] using h
  | .ptr b' o, _, h => by
    simp only [AV.fr]; split
    · rename_i e; have e := Nat.eq_of_beq_eq_true e; subst e
      simp only [Con] at h ⊢
      obtain ⟨z, e3, e4⟩ := h; rw [h1] at e3; cases e3
      exact ⟨x.1, x.2.1, xs, hf, e4, hxs, hat, hd⟩
    · exact h
  | .slice b' o n c, _, h => by
    simp only [AV.fr]; split
    · rename_i e
      have e' : b'.beq b = true ∧ n.ble c = true := by simpa only [Bool.and_eq_true] using e
      have e1 := Nat.eq_of_beq_eq_true e'.1; subst e1
      simp only [Con] at h ⊢
      obtain ⟨z, e3, e4⟩ := h; rw [h1] at e3; cases e3
      refine .inr ⟨x.1, x.2.1 + o, xs.drop o, c, hf, e4, Nat.le_of_ble_eq_true e'.2, fun m hm => by cases hm; rfl, conL_drop o hxs, fun j u hj => ?_, dataL_drop hd o⟩
      rw [List.getElem?_drop] at hj
      rw [Nat.add_assoc]; exact hat _ _ hj
    · exact h
  | .out b' n z, _, h => by
    simp only [AV.fr]; split
    · rename_i e; have e := Nat.eq_of_beq_eq_true e; subst e
      simp only [Con] at h ⊢
      rcases h with ⟨e3, e4⟩ | ⟨_, z, k, e3, e4, _, e5⟩
      · exact .inl ⟨e3, ⟨_, e4⟩, fun m hm => (by cases hm)⟩
      · rw [h1] at e3; cases e3
        refine .inr ⟨x.1, x.2.1 + 0, xs.drop 0, k, hf, e5, e4, fun m hm => (by cases hm), conL_drop 0 hxs, fun j u hj => ?_, dataL_drop hd 0⟩
        rw [List.getElem?_drop] at hj
        rw [Nat.add_assoc]; exact hat _ _ hj
    · exact h
  | .sliceo b' o n z, _, h => by
    simp only [AV.fr]; split
    · rename_i e; have e := Nat.eq_of_beq_eq_true e; subst e
      simp only [Con] at h ⊢
      obtain ⟨z, k, e3, e4, _, e5⟩ := h; rw [h1] at e3; cases e3
      refine .inr ⟨x.1, x.2.1 + o, xs.drop o, k, hf, e5, e4, fun m hm => (by cases hm), conL_drop o hxs, fun j u hj => ?_, dataL_drop hd o⟩
      rw [List.getElem?_drop] at hj
      rw [Nat.add_assoc]; exact hat _ _ hj
    · exact h
  | .fn f a b, _, h => by
    simp only [AV.fr, Con] at h ⊢; obtain ⟨ys, zs, h2, h3, h4⟩ := h; exact ⟨ys, zs, ConL.fr h1 hf hxs hat hd a h2, ConL.fr h1 hf hxs hat hd b h3, h4⟩
  | .agg l, _, h => by
    simp only [AV.fr, Con] at h ⊢; obtain ⟨ys, h2, h3⟩ := h; exact ⟨ys, ConL.fr h1 hf hxs hat hd l h2, h3⟩
  | .tup l, _, h => by
    simp only [AV.fr, Con] at h ⊢; obtain ⟨ys, h2, h3⟩ := h; exact ⟨ys, ConL.fr h1 hf hxs hat hd l h2, h3⟩
theorem ConL.fr (h1 : ρ b = some x) (hf : Φ x.1) (hxs : ConL ρ Φ w cs xs) (hat : At w x.1 x.2.1 xs) (hd : dataL cs) : ∀ (l : List AV) {ys : List Value}, ConL ρ Φ w l ys → ConL ρ Φ w (frL b cs l) ys
  | [], _, h => by simpa only [frL] using h
  | v :: l, _, h => by
    obtain ⟨y, ys, rfl, h2, h3⟩ := conL_inv h
    simp only [frL]; exact conL_cons (Con.fr h1 hf hxs hat hd v h2) (ConL.fr h1 hf hxs hat hd l h3)
end
theorem ConE.fr (h1 : ρ b = some x) (hf : Φ x.1) (hxs : ConL ρ Φ w cs xs) (hat : At w x.1 x.2.1 xs) (hd : dataL cs) : ∀ (l : List (AV × AV × Nat)) {ys : List MapEntry}, ConE ρ Φ w l ys → ConE ρ Φ w (frE b cs l) ys
  | [], _, h => by simpa only [frE] using h
  | (k, v, n) :: l, _, h => by
    simp only [frE, ConE] at h ⊢; obtain ⟨y, z, ys, h0, h2, h3, h4⟩ := h; exact ⟨y, z, ys, h0, Con.fr h1 hf hxs hat hd k h2, Con.fr h1 hf hxs hat hd v h3, ConE.fr h1 hf hxs hat hd l h4⟩
theorem frT_lk : ∀ {T : AT} {i : Nat} {v : AV}, lk (frT b cs T) i = some v → ∃ u, lk T i = some u ∧ v = u.fr b cs
  | [], i, v, h => by cases h
  | (j, u) :: T, i, v, h => by
    simp only [frT, lk_cons] at h ⊢
    split at h
    · rename_i e; cases h; exact ⟨u, by rw [if_pos e], rfl⟩
    · rename_i e; rw [if_neg e]; exact frT_lk h
theorem frH_gt : ∀ {H : AH} {i : Nat}, gt (frH b cs H) i = (gt H i).map (ABlk.fr b cs)
  | [], i => rfl
  | (j, u) :: H, i => by
    simp only [frH, gt_cons]
    split
    · rfl
    · exact frH_gt
theorem TmpsAt.fr (h1 : ρ b = some x) (hf : Φ x.1) (hxs : ConL ρ Φ w cs xs) (hat : At w x.1 x.2.1 xs) (hd : dataL cs) {T : AT} {nt : Nat} {tmps : Array Value} (h : TmpsAt ρ Φ w T nt tmps) : TmpsAt ρ Φ w (frT b cs T) nt tmps :=
  ⟨h.size, fun i v hi => by
    obtain ⟨u, e1, rfl⟩ := frT_lk hi
    obtain ⟨y, e2, e3⟩ := h.at_ i u e1
    exact ⟨y, Con.fr h1 hf hxs hat hd u e2, e3⟩⟩
theorem BlkAt.fr (h1 : ρ b = some x) (hf : Φ x.1) (hxs : ConL ρ Φ w cs xs) (hat : At w x.1 x.2.1 xs) (hd : dataL cs) {y : Nat × Nat × Nat} : ∀ {k : ABlk} {o : Obj}, BlkAt ρ Φ w y k o → BlkAt ρ Φ w y (k.fr b cs) o
  | .cells _ _, _, ⟨pre, ys, rest, h2, h3⟩ => ⟨pre, ys, rest, ConL.fr h1 hf hxs hat hd _ h2, h3⟩
  | .map _ _, _, ⟨l, h2, h3⟩ => ⟨l, ConE.fr h1 hf hxs hat hd _ h2, h3⟩
  | .iter _ _ _ _, _, ⟨r, h2, h3⟩ => ⟨r, Con.fr h1 hf hxs hat hd _ h2, h3⟩
  | .loop _ _ _ _ _ _ _ _, _, ⟨fn, tmps, z, h2, h3, h4⟩ => ⟨fn, tmps, z, h2, h3.fr h1 hf hxs hat hd, h4⟩
  | .defd _, _, h => h
end
end
end Go.AE
end

section
namespace Go.AE
open Go.RowKit
def Ret (Φ : Fz) (w : World) (res : AV) (e : Ending) (w' : World) : Prop :=
  ∃ x Φ', e = .returned x ∧ Con Env.nil Φ' w' res x ∧ Below w.heap.size w w' ∧ Φ.le Φ' ∧ (∀ r, Φ' r → Φ r ∨ w.heap.size ≤ r) ∧ ∀ r, Φ' r → r < w'.heap.size
def Pure (P : Program) (f : FuncId) (args : List AV) (res : AV) : Prop :=
  ∀ (Φ : Fz) (w : World) (xs : List Value), (∀ r, Φ r → r < w.heap.size) → ConL Env.nil Φ w args xs → Calls P f xs.toArray w (Ret Φ w res)
section
variable {C : Ctx}
theorem callsIn_of {f : FuncId} {args : Array Value} {w : World} {R : Ending → World → Prop} (n : Nat) (h : Calls C.P f args w R) : CallsIn C.F n C.P f args w R :=
  (callsIn_wide (n := n)).2 h
section ops
variable {T : AT} {H : AH} {nx : Nat} {d : Option Tmp} {ty : TypeId} {pos : String} {after : Array Edge} {g : Option (Nat × Bool)}
theorem U_call {x : Operand} {args : Array Operand} {ts : Array TypeId} {f : FuncId} {fi ca vs : List AV} {res : AV} [hf : FnOk C.P f] (hx : ev T x = some (.fn f fi ca)) (hv : evL T args.toList = some vs) (hP : Pure C.P f (fi ++ vs ++ ca) res) (hd : dataL (fi ++ vs ++ ca)) :
    OpU C ⟨d, .call ⟨.value x, args, ts⟩, ty, pos, after, g⟩ T H nx res [] nx := fun ρ Φ a w h1 h2 h3 K Q k => by
  have hc := ev_con h2 hx
  simp only [Con] at hc
  obtain ⟨xs, ys, e1, e2, e3⟩ := hc
  have e4 := evL_con h2 hv
  have hargs : ConL ρ Φ w (fi ++ vs ++ ca) (xs ++ args.toList.map a.eval ++ ys) := conL_append (conL_append e1 e4) e2
  have hcall := hP Φ w _ h3.frz (ConL.data _ hd hargs)
  have hrun : (execOp a.eval ⟨d, .call ⟨.value x, args, ts⟩, ty, pos, after, g⟩).run C.P w = .ok (.enter f (xs ++ args.toList.map a.eval ++ ys).toArray) w := by
    simp only [execOp, resolve, e3, Deferred.ofValue, Sem.run_bind, Sem.run_pure, Result.andThen_ok, invoke]
    rw [hf.run]
    simp [← Array.toList_map]
  refine ⟨fun _ _ => trivial, ?_⟩
  rw [Oper.semAt_eq _ _ _ (by intro c; simp), hrun]
  refine ⟨fun _ => by simp_all [Ctx.F, Fence.wide], (callsIn_of 0 hcall).mono ?_⟩
  rintro e w' ⟨y, Φ', rfl, h4, h5, h6, h7, h8⟩
  exact k ρ Φ' y w' (Post.later h3 nx h5 h6 h7 h8) (h4.mono (Env.nil_le ρ) Φ'.le_refl fun _ _ => rfl)
end ops
def ResAt (P : Program) (s : St) : ResultVar → AV → Prop
  | .tmp t, v => lk s.T t = some v
  | .cell t ty, v => ∃ p cs o n ag, TyVar P ty ag n ∧ lk s.T t = some p ∧ src s.H p = some (cs, o) ∧ cellsAt ag cs o n = some v
def ResL (P : Program) (s : St) : List ResultVar → List AV → Prop
  | [], vs => vs = []
  | r :: rs, vs => ∃ v l, vs = v :: l ∧ ResAt P s r v ∧ ResL P s rs l
theorem resAt_run {s : St} {ρ : Env} {Φ : Fz} {a : Act} {w : World} (hc : Conc C s ρ Φ a w) {r : ResultVar} {v : AV} (h : ResAt C.P s r v) :
    ∃ x, (match r with | .tmp t => (pure (a.tmps.getD t undef) : Sem Value) | .cell b t => do loadVar t (← asAddr (a.tmps.getD b undef))).run C.P w = .ok x w ∧ Con ρ Φ w v x := by
  cases r with
  | tmp t =>
    obtain ⟨x, h1, h2⟩ := hc.tm.at_ t v h
    exact ⟨x, by simp [h2], h1⟩
  | cell t ty =>
    obtain ⟨p, cs, o, n, ag, hT, h1, h2, h3⟩ := h
    obtain ⟨y, e1, e2⟩ := hc.tm.at_ t p h1
    obtain ⟨r, base, xs, e3, e4, e5⟩ := src_con hc.mem h2 e1
    have hp : a.tmps.getD t undef = .pointer (some ⟨r, base + o, none⟩) := by simp [e2, e3]
    have hlen := conL_len e4
    cases ag with
    | false =>
      simp only [cellsAt] at h3
      obtain ⟨z, hz, hz2⟩ := conL_get e4 o v h3
      have hld : (load ⟨r, base + o, none⟩).run C.P w = .ok z w := by rw [run_load, e5 o z hz2]
      exact ⟨z, by simp only [hp, asAddr, loadVar, Sem.run_bind, Sem.run_pure, Result.andThen_ok, hT.isagg, Bool.false_eq_true, if_false, hld], hz⟩
    | true =>
      simp only [cellsAt] at h3
      split at h3
      · rename_i hl
        cases h3
        have hld := run_loadCells (P := C.P) e5 o n 0 #[] (by omega)
        refine ⟨.agg ((xs.drop o).take n).toArray, ?_, ?_⟩
        · simp only [hp, asAddr, loadVar, Sem.run_bind, Sem.run_pure, Result.andThen_ok, hT.isagg, if_true, hT.size, loadCells, hld]; simp
        · simp only [Con]; exact ⟨_, conL_take n (conL_drop o e4), rfl⟩
      · cases h3
theorem resL_run {s : St} {ρ : Env} {Φ : Fz} {a : Act} {w : World} (hc : Conc C s ρ Φ a w) : ∀ {rs : List ResultVar} {vs : List AV}, ResL C.P s rs vs →
    ∃ xs, (rs.mapM (m := Sem) fun | .tmp t => pure (a.tmps.getD t undef) | .cell b t => do loadVar t (← asAddr (a.tmps.getD b undef))).run C.P w = .ok xs w ∧ ConL ρ Φ w vs xs
  | [], vs, h => by simp only [ResL] at h; subst h; exact ⟨[], by simp, conL_nil⟩
  | r :: rs, vs, h => by
    obtain ⟨v, l, rfl, h1, h2⟩ := h
    obtain ⟨x, e1, e2⟩ := resAt_run hc h1
    obtain ⟨xs, e3, e4⟩ := resL_run hc h2
    refine ⟨x :: xs, ?_, conL_cons e2 e4⟩
    rw [List.mapM_cons, Sem.run_bind, e1, Result.andThen_ok, Sem.run_bind, e3, Result.andThen_ok]; rfl
def packA : List AV → AV
  | [v] => v
  | vs => .tup vs
theorem results_run {fn : Func} {s : St} {ρ : Env} {Φ : Fz} {a : Act} {w : World} (hc : Conc C s ρ Φ a w) {vs : List AV} (h : ResL C.P s fn.results.toList vs) : ∃ x, (results fn a.tmps).run C.P w = .ok x w ∧ Con ρ Φ w (packA vs) x := by
  obtain ⟨xs, h1, h2⟩ := resL_run hc h
  have hlen := conL_len h2
  refine ⟨if h : xs.toArray.size = 1 then xs.toArray[0] else .tuple xs.toArray, ?_, ?_⟩
  · unfold results
    rw [Array.mapM_eq_mapM_toList, Sem.run_bind]
    have e : (Array.mk <$> (fn.results.toList.mapM (m := Sem) fun | .tmp t => pure (a.tmps.getD t undef) | .cell b t => do loadVar t (← asAddr (a.tmps.getD b undef)))).run C.P w = .ok xs.toArray w := by
      rw [← bind_pure_comp, Sem.run_bind, h1]; rfl
    erw [e]; rfl
  · match vs, xs, h2 with
    | [], [], _ => simp [packA, Con, ConL]
    | [v], [x], h2 => obtain ⟨y, ys, e1, e2, _⟩ := conL_inv h2; cases e1; simpa [packA] using e2
    | v :: u :: vs, x :: y :: xs, h2 => simp only [packA, Con]; exact ⟨_, h2, by simp⟩
    | [], _ :: _, _ => simp at hlen
    | [_], [], _ => simp at hlen
    | [_], _ :: _ :: _, _ => simp at hlen
    | _ :: _ :: _, [], _ => simp at hlen
    | _ :: _ :: _, [_], _ => simp at hlen
theorem Conc.shut {s : St} {ρ : Env} {Φ : Fz} {a : Act} {w : World} (h : Conc C s ρ Φ a w) {y : Nat} {ds : List Deferred} (hy : C.w0.heap.size ≤ y) (h1 : w.heap[y]? = some dObj) (h2 : ¬ Φ y) (hd : Coll C.w0.heap.size Φ (w.putObj y (.deferred none)) ds) : Conc C s ρ Φ { a with defers := ds } (w.putObj y (.deferred none)) := by
  have hl := (Array.getElem?_eq_some_iff.1 h1).1
  have ot : ∀ r, r ≠ y → (w.putObj y (.deferred none)).heap[r]? = w.heap[r]? := fun r hr => World.putObj_heap_other hr
  have hΦ : ∀ r, Φ r → (w.putObj y (.deferred none)).heap[r]? = w.heap[r]? := fun r hr => ot r (by rintro rfl; exact h2 hr)
  have nb : ∀ b k x, gt s.H b = some k → ρ b = some x → x.1 ≠ y := fun b k x e1 e2 e => by
    obtain ⟨z, o, e3, e4, e5⟩ := h.mem.at_ b k e1
    rw [e2] at e3; cases e3
    rw [e, h1] at e4; cases e4
    exact e5.nd rfl
  refine ⟨h.dom, h.tm.mono ρ.le_refl Φ.le_refl hΦ, ⟨fun b k hb => ?_, h.mem.inj, h.mem.free, h.mem.own, fun r hr => by simp; exact h.mem.frz r hr, ?_⟩, hd, h.fz, h.base, h.kn, ?_⟩
  · obtain ⟨z, o, e3, e4, e5⟩ := h.mem.at_ b k hb
    exact ⟨z, o, e3, (ot _ (nb b k z hb e3)).trans e4, e5.mono ρ.le_refl Φ.le_refl hΦ⟩
  · exact ⟨h.mem.keep.os, h.mem.keep.tape, h.mem.keep.output, by simp; exact h.mem.keep.size, fun r hr hn => (ot r (by omega)).trans (h.mem.keep.block r hr hn)⟩
  · intro z e1 e2
    have := (Array.getElem?_eq_some_iff.1 e1).1
    obtain ⟨e3, e4⟩ := h.dk z e1 e2
    exact ⟨(ot z (by omega)).trans e3, e4⟩
theorem leaves_of {fn : Func} {R : Ending → World → Prop} {s : St} {ρ : Env} {Φ : Fz} {tmps : Array Value} : ∀ (ys : List Nat) {a : Act} {w : World}, a.tmps = tmps → Conc C s ρ Φ a w → ys.Nodup → (∀ y ∈ ys, C.w0.heap.size ≤ y ∧ w.heap[y]? = some dObj ∧ ¬ Φ y) →
    (∀ a' w', a'.tmps = tmps → Conc C s ρ Φ a' w' → ∃ x, (results fn tmps).run C.P w' = .ok x w' ∧ R (.returned x) w') → LeavesInM C.F 0 C.P fn tmps R (ys.map fun y => { target := .collected y, args := #[] }) .returning w
  | [], a, w, ht, hc, _, _, hF => hF a w ht hc
  | y :: ys, a, w, ht, hc, hn, hy, hF => by
    obtain ⟨h1, h2, h3⟩ := hy y (by simp)
    obtain ⟨hn1, hn2⟩ := List.nodup_cons.1 hn
    refine ⟨by simp, .inl ⟨y, _, rfl, run_takeDeferred (P := C.P) h2, ?_⟩⟩
    have hy' : ∀ z ∈ ys, C.w0.heap.size ≤ z ∧ (w.putObj y (.deferred none)).heap[z]? = some dObj ∧ ¬ Φ z := fun z hz => by
      obtain ⟨e1, e2, e3⟩ := hy z (by simp [hz])
      exact ⟨e1, (World.putObj_heap_other (by rintro rfl; exact hn1 hz)).trans e2, e3⟩
    exact leaves_of ys (a := { a with defers := ys.map fun y => { target := .collected y, args := #[] } }) ht (hc.shut h1 h2 h3 ⟨ys, rfl, hn2, hy'⟩) hn2 hy' hF
def retQ (P : Program) (w0 : World) (Φ0 : Fz) (nt : Nat) (rs : List ResultVar) (res : AV) : Exit → St → Prop
  | .normal, s | .ret, s => ∃ s' vs, Gh ⟨P, w0, fun _ => False, Φ0, none, nt, 0, Env.nil⟩ s s' ∧ ResL P s' rs vs ∧ packA vs = res ∧ res.data
  | _, _ => False
def argT : Nat → List AV → AT
  | _, [] => []
  | i, v :: vs => (i, v) :: argT (i + 1) vs
theorem argT_lk : ∀ (vs : List AV) (i j : Nat) (v : AV), lk (argT i vs) j = some v → i ≤ j ∧ vs[j - i]? = some v
  | [], i, j, v, h => by cases h
  | u :: vs, i, j, v, h => by
    simp only [argT, lk_cons] at h
    split at h
    · rename_i e; subst e; cases h; simp
    · obtain ⟨h1, h2⟩ := argT_lk vs (i + 1) j v h
      refine ⟨by omega, ?_⟩
      rw [show j - i = (j - (i + 1)) + 1 by omega]; simpa using h2
theorem pure_of_body {P : Program} {f : FuncId} {fn : Func} {c : Code} (hf : P.funcs[f]? = some fn) (hb : fn.body = some c) {args : List AV} {res : AV} (hn : args.length ≤ fn.ntmps)
    (h : ∀ w0 Φ0, WpA ⟨P, w0, fun _ => False, Φ0, none, fn.ntmps, 0, Env.nil⟩ c (retQ P w0 Φ0 fn.ntmps fn.results.toList res) ⟨argT 0 args, [], 0, []⟩) : Pure P f args res := by
  intro Φ w xs hΦ hargs
  have hlen := conL_len hargs
  refine (callsIn_wide (n := 0)).1 (callsIn_of_wp_marks hf hb trivial ?_ rfl)
  have hc : Conc ⟨P, w, fun _ => False, Φ, none, fn.ntmps, 0, Env.nil⟩ ⟨argT 0 args, [], 0, []⟩ Env.nil Φ { tmps := xs.toArray ++ Array.replicate (fn.ntmps - xs.toArray.size) undef, defers := [] } w := by
    refine ⟨fun b hb => absurd rfl hb, ⟨by simp; omega, fun i v hi => ?_⟩, ⟨fun b k hb => by simp [gt] at hb, fun b b' x x' hb => absurd rfl hb, fun b x hb => absurd rfl hb, fun b x hb => absurd rfl hb, hΦ, Keeps.refl _ _⟩, Coll.nil _ _ _, ⟨fun _ h => .inl h, Fz.le_refl _⟩, fun _ hb => absurd hb (Nat.not_lt_zero _), Nat.zero_le _, Dk.refl _ _⟩
    obtain ⟨_, h2⟩ := argT_lk args 0 i v hi
    obtain ⟨y, hy, hy2⟩ := conL_get hargs i v (by simpa using h2)
    exact ⟨y, hy, by obtain ⟨hl, e⟩ := List.getElem?_eq_some_iff.1 hy2; simp [Array.getElem?_append, hl, e]⟩
  refine wpIn_mono (h w Φ Env.nil Φ _ w hc) ?_
  rintro e a' w' ⟨s', ρ', Φ', hq, hc'⟩
  have fin : ∀ e', (e' = Exit.normal ∨ e' = .ret) → (∃ s'' vs, Gh ⟨P, w, fun _ => False, Φ, none, fn.ntmps, 0, Env.nil⟩ s' s'' ∧ ResL P s'' fn.results.toList vs ∧ packA vs = res ∧ res.data) → bodyPostM Fence.wide 0 P fn (Ret Φ w res) e' a' w' := by
    rintro e' he ⟨s'', vs, hg, hr, hp, hdt⟩
    obtain ⟨ρ'', Φ'', hc''⟩ := hg ρ' Φ' a' w' hc'
    obtain ⟨ys, hd1, hd2, hd3⟩ := hc''.df
    have : LeavesInM Fence.wide 0 P fn a'.tmps (Ret Φ w res) a'.defers .returning w' := by
      rw [hd1]
      refine leaves_of (C := ⟨P, w, fun _ => False, Φ, none, fn.ntmps, 0, Env.nil⟩) ys rfl hc'' hd2 hd3 fun a2 w2 ht hc2 => ?_
      obtain ⟨x, hx1, hx2⟩ := results_run hc2 hr
      exact ⟨x, ht ▸ hx1, x, Φ'', rfl, Con.data _ hdt (hp ▸ hx2), hc2.mem.keep.below, hc2.fz.2, fun r hr => (hc2.fz.1 r hr).imp id (fun h1 => h1.elim id False.elim), hc2.mem.frz⟩
    rcases he with rfl | rfl <;> exact this
  cases e with
  | normal => exact fin _ (.inl rfl) hq
  | ret => exact fin _ (.inr rfl) hq
  | exit i => exact hq.elim
  | goto l => exact hq.elim
  | panic ch => exact hq.elim
  | outgrown => exact hq.elim
end
end Go.AE
end

section
namespace Go.AE
open Go.RowKit
def fillA (place : Nat → Option (Nat × Nat)) (cs : List AV) : List (Nat × AV) → Option (List AV)
  | [] => some cs
  | (i, v) :: rest => match place i with
    | none => none
    | some (off, size) => if v.cellsA.length = size ∧ off + size ≤ cs.length then fillA place (setC cs off v.cellsA) rest else none
def evP (T : AT) : List (Nat × Operand) → Option (List (Nat × AV))
  | [] => some []
  | (i, x) :: l => match ev T x, evP T l with
    | some v, some vs => some ((i, v) :: vs)
    | _, _ => none
def ConP (ρ : Env) (Φ : Fz) (w : World) : List (Nat × AV) → List (Nat × Value) → Prop
  | [], ys => ys = []
  | (i, v) :: l, ys => ∃ x ys', ys = (i, x) :: ys' ∧ Con ρ Φ w v x ∧ ConP ρ Φ w l ys'
theorem evP_con {ρ : Env} {Φ : Fz} {w : World} {T : AT} {nt : Nat} {a : Act} (h : TmpsAt ρ Φ w T nt a.tmps) : ∀ {xs : List (Nat × Operand)} {vs : List (Nat × AV)}, evP T xs = some vs → ConP ρ Φ w vs (xs.map fun p => (p.1, a.eval p.2))
  | [], vs, e => by simp only [evP] at e; cases e; rfl
  | (i, x) :: xs, vs, e => by
    simp only [evP] at e
    split at e
    · rename_i v l h1 h2; cases e; exact ⟨_, _, rfl, ev_con h h1, evP_con h h2⟩
    · cases e
theorem setCells_foldl {α : Type} : ∀ (vs : List α) (off : Nat) (k : Nat) (cs : Array α),
    ((vs.zipIdx k).foldl (fun cs (p : α × Nat) => cs.setIfInBounds (off + p.2) p.1) cs).toList = setC cs.toList (off + k) vs
  | [], off, k, cs => rfl
  | v :: vs, off, k, cs => by
    rw [List.zipIdx_cons, List.foldl_cons, setCells_foldl vs off (k + 1) _]
    simp [setC, Nat.add_assoc]
theorem fill_con {ρ : Env} {Φ : Fz} {w : World} {place : Nat → Option (Nat × Nat)} : ∀ {ps : List (Nat × AV)} {qs : List (Nat × Value)} {cs cs' : List AV} {xs : Array Value}, ConP ρ Φ w ps qs → ConL ρ Φ w cs xs.toList → fillA place cs ps = some cs' →
    ∃ ys, Instr.fill place xs qs = some ys ∧ ConL ρ Φ w cs' ys.toList
  | [], qs, cs, cs', xs, h, hc, hf => by simp only [ConP] at h; subst h; simp only [fillA] at hf; cases hf; exact ⟨xs, rfl, hc⟩
  | (i, v) :: ps, qs, cs, cs', xs, h, hc, hf => by
    obtain ⟨x, qs', rfl, h1, h2⟩ := h
    simp only [fillA] at hf
    split at hf
    · cases hf
    · rename_i off size hp
      split at hf
      · rename_i hcond
        obtain ⟨e1, e2⟩ := hcond
        have hcl := con_cells h1
        have hlen := conL_len hcl
        have hlc := conL_len hc
        have e3 : x.cells.size = size := by rw [← e1, ← hlen]; simp
        have hnew : ConL ρ Φ w (setC cs off v.cellsA) (x.cells.zipIdx.foldl (fun cs (p : Value × Nat) => cs.setIfInBounds (off + p.2) p.1) xs).toList := by
          rw [← Array.foldl_toList, Array.toList_zipIdx, setCells_foldl]
          exact conL_setC off hc hcl
        obtain ⟨ys, e4, e5⟩ := fill_con h2 hnew hf
        refine ⟨ys, ?_, e5⟩
        unfold Instr.fill
        simp only [hp]
        rw [if_neg]
        · exact e4
        · have : xs.size = cs.length := by simpa using hlc
          simp [e3]; omega
      · cases hf
theorem TyBuild.of_struct {P : Program} {t : TypeId} {z : List AV} {fs : Array Field} {pl : List (Nat × Nat)} {zv : Value} (hz : ∀ w, (zeroValue t).run P w = .ok zv w) (hc : cvSL zv.cells.toList = some z) (hu : P.underlying t = some (.struct fs))
    (hm : ∀ w, (fs.mapM (m := Sem) fun f => do pure (f.offset, ← Go.sizeOf f.type)).run P w = .ok pl.toArray w) : TyBuild P t z (fun i => pl[i]?) :=
  ⟨zv.cells, hc, fun parts cs w h => by
    have h' : Instr.fill (fun i => pl.toArray[i]?) zv.cells parts.toList = some cs := by simpa using h
    simp only [Instr.build, Sem.run_bind, hz, Result.andThen_ok, run_underlying hu, hm, h', Sem.run_pure]⟩
theorem TyBuild.of_array {P : Program} {t : TypeId} {z : List AV} {len e n : Nat} {zv : Value} (hz : ∀ w, (zeroValue t).run P w = .ok zv w) (hc : cvSL zv.cells.toList = some z) (hT : TyAr P t len e n) : TyBuild P t z (fun i => some (i * n, n)) :=
  ⟨zv.cells, hc, fun parts cs w h => by
    simp only [Instr.build, Sem.run_bind, hz, Result.andThen_ok, run_underlying hT.un, hT.size, h, Sem.run_pure]⟩
section ops
variable {C : Ctx} {T : AT} {H : AH} {nx : Nat} {d : Option Tmp} {ty : TypeId} {pos : String} {after : Array Edge} {g : Option (Nat × Bool)}
theorem U_build {t : TypeId} {ps : Array (Nat × Operand)} {vs : List (Nat × AV)} {z cs : List AV} {pl : Nat → Option (Nat × Nat)} [hT : TyBuild C.P t z pl] (hv : evP T ps.toList = some vs) (hf : fillA pl z vs = some cs) :
    OpU C ⟨d, .build t ps, ty, pos, after, g⟩ T H nx (.agg cs) [] nx :=
  OpU.of_value (by intro c; simp) fun ρ Φ a w h2 _ => by
    obtain ⟨zv, h3, h4⟩ := hT.run
    obtain ⟨ys, e1, e2⟩ := fill_con (evP_con h2 hv) (cvSL_con (ρ := ρ) (Φ := Φ) (w := w) h3) hf
    refine ⟨.agg ys, ?_, ?_⟩
    · have := h4 (ps.map fun (i, x) => (i, a.eval x)) ys w (by rw [Array.toList_map]; exact e1)
      simp [execOp, this]
    · simp only [Con]; exact ⟨_, e2, by simp⟩
theorem conL_flat {ρ : Env} {Φ : Fz} {w : World} {z : List AV} {zv : List Value} (h : ConL ρ Φ w z zv) : ∀ n : Nat, ConL ρ Φ w (List.replicate n z).flatten (List.replicate n zv).flatten
  | 0 => by simp [conL_nil]
  | n + 1 => by simp only [List.replicate_succ, List.flatten_cons]; exact conL_append h (conL_flat h n)
theorem zeros_eq {α : Type} [Inhabited α] (z : Array α) : ∀ n : Nat, ((Array.range (n * z.size)).map (z[· % z.size]!)).toList = (List.replicate n z.toList).flatten
  | 0 => by simp
  | n + 1 => by
    rw [List.replicate_succ', List.flatten_append, ← zeros_eq z n]
    simp only [Array.toList_map, Array.toList_range, List.flatten_cons, List.flatten_nil, List.append_nil]
    rw [Nat.add_mul, Nat.one_mul, List.range_add, List.map_append]
    congr 1
    apply List.ext_getElem
    · simp
    · intro i h1 h2
      simp at h1 h2
      simp [Nat.mod_eq_of_lt h1, getElem!_pos z i h1]
theorem U_buildSlice {t : TypeId} {n e k : Nat} {ps : Array (Nat × Operand)} {vs : List (Nat × AV)} {z cs : List AV} [hT : TySl C.P t e k] [hz : TyZero C.P e z] (hk : z.length = k) (hlim : n * k ≤ 2 ^ 24) (hv : evP T ps.toList = some vs) (hf : fillA (fun i => some (i * k, k)) (List.replicate n z).flatten vs = some cs) :
    OpU C ⟨d, .buildSlice t n ps, ty, pos, after, g⟩ T H nx (.slice nx 0 n n) [(nx, some (.cells cs e))] (nx + 1) :=
  OpU.of_run (by intro c; simp) fun ρ Φ a w h1 h2 h3 => by
    obtain ⟨zv, hz1, hz2⟩ := hz.zero
    have hzc := cvSL_con (ρ := ρ) (Φ := Φ) (w := w) hz2
    have hzl := conL_len hzc
    have hzs : zv.cells.size = k := by rw [← hk, ← hzl]; simp
    have hzz : ∃ Z : Array Value, ((n * k = 0 ∧ Z = #[]) ∨ (n * k ≠ 0 ∧ Z = zv.cells)) ∧ ((Array.range (n * k)).map (Z[· % Z.size]!)).toList = (List.replicate n zv.cells.toList).flatten := by
      by_cases h0 : n * k = 0
      · refine ⟨#[], .inl ⟨h0, rfl⟩, ?_⟩
        rw [h0]
        have : (List.replicate n zv.cells.toList).flatten.length = 0 := by simp [hzs, h0]
        rw [List.length_eq_zero_iff.1 this]; simp
      · refine ⟨zv.cells, .inr ⟨h0, rfl⟩, ?_⟩
        rw [← hzs]; exact zeros_eq zv.cells n
    obtain ⟨Z, hZ1, hZ2⟩ := hzz
    have hc0 : ConL ρ Φ w (List.replicate n z).flatten ((Array.range (n * k)).map (Z[· % Z.size]!)).toList := by rw [hZ2]; exact conL_flat hzc n
    obtain ⟨ys, e1, e2⟩ := fill_con (evP_con h2 hv) hc0 hf
    have := new_at h3 h1 e e2
    refine ⟨_, _, .slice (some ⟨w.heap.size, 0, none⟩) n n, _, .inl ?_, this, by simp only [Con]; exact ⟨_, Env.upd_same _ _ _, rfl⟩⟩
    have e1' : Instr.fill (fun i => some (i * k, k)) ((Array.range (n * k)).map (Z[· % Z.size]!)) (ps.map fun (i, x) => (i, a.eval x)).toList = some ys := by rw [Array.toList_map]; exact e1
    rcases hZ1 with ⟨h0, rfl⟩ | ⟨h0, rfl⟩
    · simp only [execOp, Instr.buildSlice, Sem.run_bind, run_underlying hT.un, Result.andThen_ok, hT.size, show ¬ n * k > 2 ^ 24 by omega, if_false, if_pos h0, e1', newRow, run_newObj_alloc, Sem.run_pure]
    · simp only [execOp, Instr.buildSlice, Sem.run_bind, run_underlying hT.un, Result.andThen_ok, hT.size, show ¬ n * k > 2 ^ 24 by omega, if_false, if_neg h0, hz1, e1', newRow, run_newObj_alloc, Sem.run_pure]
end ops
end Go.AE
end

section
namespace Go.AE
open Go.RowKit
def slotsOf (l : List Operand) : List Nat := l.filterMap fun | .tmp t => some t | _ => none
def looks (ops : List Oper) (o : Oper) : List Nat :=
  slotsOf o.op.operands.toList ++ (match o.guard with
    | some (g, _) => match nth ops g with
      | some p => p.dst.toList
      | none => []
    | none => [])
def only (l : List Nat) : AT → AT
  | [] => []
  | (i, v) :: T => if l.contains i then (i, v) :: only l T else only l T
theorem lk_only (l : List Nat) : ∀ (T : AT) (i : Nat) (v : AV), lk (only l T) i = some v → i ∈ l ∧ lk T i = some v
  | [], i, v, h => by cases h
  | (j, u) :: T, i, v, h => by
    simp only [only] at h
    split at h
    · rename_i hj
      rw [lk_cons] at h ⊢
      by_cases e : j = i
      · subst e; rw [if_pos rfl] at h ⊢; exact ⟨by simpa using hj, h⟩
      · rw [if_neg e] at h ⊢; exact lk_only l T i v h
    · rename_i hj
      obtain ⟨h1, h2⟩ := lk_only l T i v h
      refine ⟨h1, ?_⟩
      rw [lk_cons, if_neg (by rintro rfl; simp at hj; exact hj h1)]; exact h2
def cls : Op → Nat
  | .move _ | .assign _ | .pick _ _ _ | .alloc _ | .box _ _ | .build _ _ | .buildSlice _ _ _ | .nilCheck _ | .binOp _ _ _ _ _ | .unOp _ _ _ | .makeFunc _ _ _ | .makeMap _ _ | .makeSlice _ _ _ | .slice _ _ _ _ _ | .fieldAddr _ _ _ | .field _ _ _ | .indexAddr _ _ _ | .index _ _ _ | .extract _ _ => 0
  | .load _ _ | .lookup _ _ _ _ | .convert _ _ _ => 1
  | .call c => match c.callee with
    | .value _ => 1
    | .builtin .max | .builtin .min => 0
    | .builtin .len => 1
    | _ => 2
  | _ => 2
def bit (ms : List Nat) (i j : Nat) : Bool := match nth ms i with
  | some m => m.testBit j
  | none => false
def edges (o : Oper) : List Nat := (o.after.toList.filter (Region.binds .any)).map (·.on)
def masks (ops : List Oper) : List Nat := ops.foldl (fun ms o => ms ++ [(edges o).foldl (fun m e => m ||| 2 ^ e ||| ((nth ms e).getD 0)) 0]) []
def wrC (c : Nat) : Bool := c == 2 || c == 7
def clash (kl : Oper → Nat) (ops : List Oper) (i j : Nat) : Bool := match nth ops i, nth ops j with
  | some p, some q => (match p.dst with | some d => (looks ops q).contains d || q.dst == some d | none => false) || (match q.dst with | some d => (looks ops p).contains d | none => false) ||
      (wrC (kl p) && kl q != 0 && !(kl p == 7 && kl q == 6)) || (kl p != 0 && wrC (kl q) && !(kl p == 6 && kl q == 7)) || (kl p == 4 && kl q != 0 && kl q != 3) || (kl q == 4 && kl p != 0 && kl p != 3)
  | _, _ => false
def chk (kl : Oper → Nat) (ops : List Oper) (ms : List Nat) : Bool :=
  let n := ops.length
  (List.range n).all fun i => (match nth ops i with
    | some o => ((edges o).all fun e => e.blt i && bit ms i e && (List.range n).all fun j => !bit ms e j || bit ms i j) &&
        (List.range n).all fun j => (!bit ms i j || (edges o).any fun e => e == j || bit ms e j)
    | none => true) && (List.range i).all fun j => !clash kl ops j i || bit ms i j
section
variable {kl : Oper → Nat} {ops : List Oper} {ms : List Nat}
structure Chk (kl : Oper → Nat) (ops : List Oper) (ms : List Nat) : Prop where
  lt : ∀ i o, i < ops.length → nth ops i = some o → ∀ e ∈ edges o, e < i
  dir : ∀ i o, i < ops.length → nth ops i = some o → ∀ e ∈ edges o, bit ms i e = true
  sub : ∀ i o, i < ops.length → nth ops i = some o → ∀ e ∈ edges o, ∀ j, j < ops.length → bit ms e j = true → bit ms i j = true
  snd : ∀ i o, i < ops.length → nth ops i = some o → ∀ j, j < ops.length → bit ms i j = true → ∃ e ∈ edges o, e = j ∨ bit ms e j = true
  cl : ∀ i, i < ops.length → ∀ j, j < i → clash kl ops j i = true → bit ms i j = true
theorem chk_of (h : chk kl ops ms = true) : Chk kl ops ms := by
  unfold chk at h
  simp only [List.all_eq_true, List.mem_range, Bool.and_eq_true] at h
  refine ⟨fun i o hi ho e he => ?_, fun i o hi ho e he => ?_, fun i o hi ho e he j hj hb => ?_, fun i o hi ho j hj hb => ?_, fun i hi j hj hc => ?_⟩
  · have := (h i hi).1; rw [ho] at this; simp only [Bool.and_eq_true, List.all_eq_true, List.mem_range] at this
    have := (this.1 e he).1.1; simpa [Nat.blt_eq] using this
  · have := (h i hi).1; rw [ho] at this; simp only [Bool.and_eq_true, List.all_eq_true, List.mem_range] at this
    exact (this.1 e he).1.2
  · have := (h i hi).1; rw [ho] at this; simp only [Bool.and_eq_true, List.all_eq_true, List.mem_range] at this
    have := (this.1 e he).2 j hj; simpa [hb] using this
  · have := (h i hi).1; rw [ho] at this; simp only [Bool.and_eq_true, List.all_eq_true, List.mem_range] at this
    have := this.2 j hj
    simp only [hb, Bool.not_true, Bool.false_or, List.any_eq_true, Bool.or_eq_true, beq_iff_eq] at this
    exact this
  · have := (h i hi).2 j hj; simpa [hc] using this
theorem nth_some {i : Nat} (h : i < ops.length) : ∃ o, nth ops i = some o := ⟨ops[i], by rw [nth_eq]; simp [h]⟩
theorem nth_lt {i : Nat} {o : Oper} (h : nth ops i = some o) : i < ops.length := by rw [nth_eq] at h; exact (List.getElem?_eq_some_iff.1 h).1
theorem Chk.below (h : Chk kl ops ms) : ∀ i j, i < ops.length → j < ops.length → bit ms i j = true → j < i := by
  intro i
  induction i using Nat.strongRecOn with
  | _ i ih =>
    intro j hi hj hb
    obtain ⟨o, ho⟩ := nth_some hi
    obtain ⟨e, he, h1⟩ := h.snd i o hi ho j hj hb
    have := h.lt i o hi ho e he
    rcases h1 with rfl | h1
    · exact this
    · have := ih e this j (by omega) hj h1; omega
theorem Chk.trans (h : Chk kl ops ms) : ∀ i j k, i < ops.length → j < ops.length → k < ops.length → bit ms i j = true → bit ms j k = true → bit ms i k = true := by
  intro i
  induction i using Nat.strongRecOn with
  | _ i ih =>
    intro j k hi hj hk h1 h2
    obtain ⟨o, ho⟩ := nth_some hi
    obtain ⟨e, he, h3⟩ := h.snd i o hi ho j hj h1
    have hlt := h.lt i o hi ho e he
    rcases h3 with rfl | h3
    · exact h.sub i o hi ho e he k hk h2
    · exact h.sub i o hi ho e he k hk (ih e hlt j k (by omega) hj hk h3 h2)
theorem Chk.closed (h : Chk kl ops ms) {S : Nat → Bool} : ∀ i, i < ops.length → (∀ j o, j < ops.length → nth ops j = some o → S j = true → ∀ e ∈ edges o, S e = true) → (∀ o, nth ops i = some o → ∀ e ∈ edges o, S e = true) → ∀ j, j < ops.length → bit ms i j = true → S j = true := by
  intro i
  induction i using Nat.strongRecOn with
  | _ i ih =>
    intro hi hS hd j hj hb
    obtain ⟨o, ho⟩ := nth_some hi
    obtain ⟨e, he, h1⟩ := h.snd i o hi ho j hj hb
    have hlt := h.lt i o hi ho e he
    rcases h1 with rfl | h1
    · exact hd o ho _ he
    · exact ih e hlt (by omega) hS (fun o' ho' e' he' => hS e o' (by omega) ho' (hd o ho e he) e' he') j hj h1
end
def dstOf (ops : List Oper) (k : Nat) : Option Tmp := (nth ops k).bind (·.dst)
def TS (ops : List Oper) (T0 : AT) (V : Nat → AV) (S : Nat → Bool) : Nat → AT
  | 0 => T0
  | n + 1 => if S n then putT (dstOf ops n) (V n) (TS ops T0 V S n) else TS ops T0 V S n
def HS (H0 : AH) (U : Nat → AH) (S : Nat → Bool) : Nat → AH
  | 0 => H0
  | n + 1 => if S n then U n ++ HS H0 U S n else HS H0 U S n
theorem lk_putT (d : Option Tmp) (v : AV) (T : AT) (t : Nat) : lk (putT d v T) t = if d = some t then some v else lk T t := by
  cases d with
  | none => simp [putT]
  | some d => simp [putT, lk_cons]
theorem TS_congr {ops : List Oper} {T0 : AT} {V : Nat → AV} {S S' : Nat → Bool} {t : Nat} : ∀ n, (∀ j, j < n → dstOf ops j = some t → S j = S' j) → lk (TS ops T0 V S n) t = lk (TS ops T0 V S' n) t
  | 0, _ => rfl
  | n + 1, h => by
    have ih := TS_congr (T0 := T0) (V := V) n fun j hj => h j (by omega)
    have hn := h n (by omega)
    simp only [TS]
    by_cases hd : dstOf ops n = some t
    · rw [hn hd]; cases S' n <;> simp [lk_putT, hd, ih]
    · cases S n <;> cases S' n <;> simp [lk_putT, hd, ih]
def keysOf (u : AH) : List Nat := u.map (·.1)
theorem gt_app (u H : AH) (b : Nat) : gt (u ++ H) b = if b ∈ keysOf u then gt u b else gt H b := by
  induction u with
  | nil => simp [keysOf]
  | cons p u ih =>
    obtain ⟨k, v⟩ := p
    have hk : keysOf ((k, v) :: u) = k :: keysOf u := rfl
    rw [List.cons_append, gt_cons, gt_cons, ih, hk]
    by_cases e : k = b
    · simp [e]
    · have : b ≠ k := fun h => e h.symm
      simp [e, this]
theorem HS_congr {H0 : AH} {U : Nat → AH} {S S' : Nat → Bool} {b : Nat} : ∀ n, (∀ j, j < n → b ∈ keysOf (U j) → S j = S' j) → gt (HS H0 U S n) b = gt (HS H0 U S' n) b
  | 0, _ => rfl
  | n + 1, h => by
    have ih := HS_congr (H0 := H0) n fun j hj => h j (by omega)
    have hn := h n (by omega)
    simp only [HS]
    by_cases hd : b ∈ keysOf (U n)
    · rw [hn hd]; cases S' n <;> simp [gt_app, hd, ih]
    · cases S n <;> cases S' n <;> simp [gt_app, hd, ih]
theorem HS_live {H0 : AH} {U : Nat → AH} {S : Nat → Bool} {b : Nat} : ∀ n, gt (HS H0 U S n) b ≠ none → gt H0 b ≠ none ∨ ∃ k, k < n ∧ S k = true ∧ b ∈ keysOf (U k)
  | 0, h => .inl h
  | n + 1, h => by
    simp only [HS] at h
    by_cases hS : S n = true
    · rw [if_pos hS, gt_app] at h
      split at h
      · exact .inr ⟨n, by omega, hS, by assumption⟩
      · exact (HS_live n h).imp id fun ⟨k, h1, h2⟩ => ⟨k, by omega, h2⟩
    · rw [if_neg hS] at h
      exact (HS_live n h).imp id fun ⟨k, h1, h2⟩ => ⟨k, by omega, h2⟩
def msk (ms : List Nat) (i : Nat) : Nat := (nth ms i).getD 0
def selH (m : Nat) (H0 : AH) : List (Nat × AH) → AH
  | [] => H0
  | (j, u) :: D => if m.testBit j then u ++ selH m H0 D else selH m H0 D
def allH (H0 : AH) : List (Nat × AH) → AH
  | [] => H0
  | (_, u) :: D => u ++ allH H0 D
def oldB (H0 : AH) : AH → AH
  | [] => []
  | (j, u) :: l => match gt H0 j with
    | some _ => (j, u) :: oldB H0 l
    | none => oldB H0 l
def newB (H0 : AH) : AH → AH
  | [] => []
  | (j, u) :: l => match gt H0 j with
    | some _ => newB H0 l
    | none => (j, u) :: newB H0 l
theorem gt_old {H0 : AH} {b : Nat} : ∀ {l : AH}, gt (oldB H0 l) b = if gt H0 b ≠ none then gt l b else none
  | [] => by simp [oldB, gt]
  | (j, u) :: l => by
    unfold oldB
    cases e : gt H0 j with
    | some x =>
      simp only
      rw [gt_cons, gt_cons, gt_old (l := l)]
      by_cases h : j = b
      · subst h; simp [e]
      · simp [h]
    | none =>
      simp only
      rw [gt_cons, gt_old (l := l)]
      by_cases h : j = b
      · subst h; simp [e]
      · simp [h]
theorem gt_new {H0 : AH} {b : Nat} : ∀ {l : AH}, gt (newB H0 l) b = if gt H0 b = none then gt l b else none
  | [] => by simp [newB, gt]
  | (j, u) :: l => by
    unfold newB
    cases e : gt H0 j with
    | some x =>
      simp only
      rw [gt_cons, gt_new (l := l)]
      by_cases h : j = b
      · subst h; simp [e]
      · simp [h]
    | none =>
      simp only
      rw [gt_cons, gt_cons, gt_new (l := l)]
      by_cases h : j = b
      · subst h; simp [e]
      · simp [h]
def hrOf (c m : Nat) (H0 : AH) (D : List (Nat × AH)) : AH := match c with
  | 0 => []
  | 3 => oldB H0 (selH m H0 D)
  | 4 => newB H0 (selH m H0 D)
  | _ => selH m H0 D
def upsOk (c : Nat) (Hr : AH) (nx nx' : Nat) (ups : AH) : Bool := ups.all fun p => (nx.ble p.1 && p.1.blt nx') || ((c == 2 || c == 4 || c == 7) && (gt Hr p.1).isSome)
def nc (k : Nat) (c : Bool) : Bool := c && (!(k == 6) && !(k == 7))
inductive Dr {al : Nat × ABlk} (C : Ctx) (kl : Oper → Nat) (ops : List Oper) (ms : List Nat) (H0 : AH) (K : AT → AH → Nat → Prop) : Nat → AT → List (Nat × AH) → Nat → Prop
  | nil {i : Nat} {T : AT} {D : List (Nat × AH)} {nx : Nat} (hi : nth ops i = none) (h : K T (allH H0 D) nx) : @Dr al C kl ops ms H0 K i T D nx
  | op {i : Nat} {T : AT} {D : List (Nat × AH)} {nx : Nat} {o : Oper} {v : AV} {ups : AH} {nx' : Nat} {c : Bool} (ho : nth ops i = some o) (hg : wantedA ops T o = some c) (hc : nc (kl o) c = true)
      (hU : OpU C o (only (looks ops o) T) (hrOf (kl o) (msk ms i) H0 D) nx v ups nx') (hd : o.dst.all (· < C.nt) = true) (hn : nx ≤ nx') (hk : upsOk (kl o) (hrOf (kl o) (msk ms i) H0 D) nx nx' ups = true)
      (k : @Dr al C kl ops ms H0 K (i + 1) (putT o.dst v T) ((i, ups) :: D) nx') : @Dr al C kl ops ms H0 K i T D nx
  | op6 {i : Nat} {T : AT} {D : List (Nat × AH)} {nx : Nat} {o : Oper} {v : AV} {c : Bool} (ho : nth ops i = some o) (hg : wantedA ops T o = some c) (hc : c = true) (h6 : kl o = 6)
      (hU : OpU C o (only (looks ops o) T) (hrOf (kl o) (msk ms i) H0 D) nx v [] nx) (hU2 : OpU C o (only (looks ops o) T) ((al.1, some al.2) :: hrOf (kl o) (msk ms i) H0 D) nx v [] nx) (hd : o.dst.all (· < C.nt) = true)
      (k : @Dr al C kl ops ms H0 K (i + 1) (putT o.dst v T) ((i, []) :: D) nx) : @Dr al C kl ops ms H0 K i T D nx
  | op7 {i : Nat} {T : AT} {D : List (Nat × AH)} {nx : Nat} {o : Oper} {v : AV} {c : Bool} (ho : nth ops i = some o) (hg : wantedA ops T o = some c) (hc : c = true) (h7 : kl o = 7)
      (hU : OpU C o (only (looks ops o) T) (hrOf (kl o) (msk ms i) H0 D) nx v [(al.1, some al.2)] nx) (hl : (gt (hrOf (kl o) (msk ms i) H0 D) al.1).isSome = true) (hd : o.dst.all (· < C.nt) = true)
      (k : @Dr al C kl ops ms H0 K (i + 1) (putT o.dst v T) ((i, [(al.1, some al.2)]) :: D) nx) : @Dr al C kl ops ms H0 K i T D nx
  | skip {i : Nat} {T : AT} {D : List (Nat × AH)} {nx : Nat} {o : Oper} {c : Bool} (ho : nth ops i = some o) (hg : wantedA ops T o = some c) (hc : c = false) (hd : o.dst.all (· < C.nt) = true)
      (k : @Dr al C kl ops ms H0 K (i + 1) (putT o.dst (.tup []) T) ((i, []) :: D) nx) : @Dr al C kl ops ms H0 K i T D nx
def Tn (ops : List Oper) (V : Nat → AV) (T0 : AT) : Nat → AT
  | 0 => T0
  | k + 1 => putT (dstOf ops k) (V k) (Tn ops V T0 k)
def Dn (U : Nat → AH) : Nat → List (Nat × AH)
  | 0 => []
  | k + 1 => (k, U k) :: Dn U k
theorem Tn_congr {ops : List Oper} {V V' : Nat → AV} {T0 : AT} : ∀ n, (∀ k, k < n → V k = V' k) → Tn ops V T0 n = Tn ops V' T0 n
  | 0, _ => rfl
  | n + 1, h => by simp only [Tn]; rw [h n (by omega), Tn_congr n fun k hk => h k (by omega)]
theorem Dn_congr {U U' : Nat → AH} : ∀ n, (∀ k, k < n → U k = U' k) → Dn U n = Dn U' n
  | 0, _ => rfl
  | n + 1, h => by simp only [Dn]; rw [h n (by omega), Dn_congr n fun k hk => h k (by omega)]
structure Fact (al : Nat × ABlk) (C : Ctx) (kl : Oper → Nat) (ops : List Oper) (ms : List Nat) (H0 : AH) (T0 : AT) (V : Nat → AV) (U : Nat → AH) (N : Nat → Nat) (k : Nat) : Prop where
  le : N k ≤ N (k + 1)
  op : ∃ o c, nth ops k = some o ∧ wantedA ops (Tn ops V T0 k) o = some c ∧ o.dst.all (· < C.nt) = true ∧
    ((c = true ∧ OpU C o (only (looks ops o) (Tn ops V T0 k)) (hrOf (kl o) (msk ms k) H0 (Dn U k)) (N k) (V k) (U k) (N (k + 1)) ∧ upsOk (kl o) (hrOf (kl o) (msk ms k) H0 (Dn U k)) (N k) (N (k + 1)) (U k) = true ∧
        (kl o = 6 → U k = [] ∧ OpU C o (only (looks ops o) (Tn ops V T0 k)) ((al.1, some al.2) :: hrOf (kl o) (msk ms k) H0 (Dn U k)) (N k) (V k) (U k) (N (k + 1))) ∧ (kl o = 7 → U k = [(al.1, some al.2)])) ∨
     (c = false ∧ V k = .tup [] ∧ U k = []))
section
variable {al : Nat × ABlk} {C : Ctx} {kl : Oper → Nat} {ops : List Oper} {ms : List Nat} {H0 : AH} {K : AT → AH → Nat → Prop} {T0 : AT}
theorem Dr.facts {i : Nat} {T : AT} {D : List (Nat × AH)} {nx : Nat} (h : Dr (al := al) C kl ops ms H0 K i T D nx) : ∀ (V0 : Nat → AV) (U0 : Nat → AH) (N0 : Nat → Nat), Tn ops V0 T0 i = T → Dn U0 i = D → N0 i = nx → i ≤ ops.length →
    ∃ V U N, (∀ k, k < i → V k = V0 k ∧ U k = U0 k) ∧ (∀ k, k ≤ i → N k = N0 k) ∧ (∀ k, i ≤ k → k < ops.length → Fact al C kl ops ms H0 T0 V U N k) ∧ K (Tn ops V T0 ops.length) (allH H0 (Dn U ops.length)) (N ops.length) := by
  induction h with
  | @nil i T D nx hi h =>
    intro V0 U0 N0 h1 h2 h3 hl
    have : i = ops.length := by
      rw [nth_eq, List.getElem?_eq_none_iff] at hi; omega
    subst this
    exact ⟨V0, U0, N0, fun _ _ => ⟨rfl, rfl⟩, fun _ _ => rfl, fun k h4 h5 => by omega, by rw [h1, h2, h3]; exact h⟩
  | @op i T D nx o v ups nx' c ho hg hc hU hd hn hk _ ih =>
    intro V0 U0 N0 h1 h2 h3 hl
    have hlt := nth_lt ho
    obtain ⟨V, U, N, e1, e2, e3, e4⟩ := ih (fun k => if k = i then v else V0 k) (fun k => if k = i then ups else U0 k) (fun k => if k = i + 1 then nx' else N0 k)
      (by simp only [Tn, dstOf, ho, Option.bind_some, if_true]; rw [← h1]; congr 1; exact Tn_congr _ fun k hk => by rw [if_neg (by omega)])
      (by simp only [Dn, if_true]; rw [← h2]; congr 1; exact Dn_congr _ fun k hk => by rw [if_neg (by omega)]) (by simp) (by omega)
    have v1 : V i = v := by rw [(e1 i (by omega)).1]; simp
    have u1 : U i = ups := by rw [(e1 i (by omega)).2]; simp
    have n1 : N i = nx := by rw [e2 i (by omega), if_neg (by omega)]; exact h3
    have n2 : N (i + 1) = nx' := by rw [e2 (i + 1) (by omega)]; simp
    have t1 : Tn ops V T0 i = T := by rw [← h1]; exact Tn_congr _ fun k hk => by rw [(e1 k (by omega)).1, if_neg (by omega)]
    have d1 : Dn U i = D := by rw [← h2]; exact Dn_congr _ fun k hk => by rw [(e1 k (by omega)).2, if_neg (by omega)]
    refine ⟨V, U, N, fun k hk => by rw [(e1 k (by omega)).1, (e1 k (by omega)).2]; simp [show k ≠ i by omega], fun k hk => by rw [e2 k (by omega), if_neg (by omega)], fun k h4 h5 => ?_, e4⟩
    by_cases e : k = i
    · subst e
      simp only [nc, Bool.and_eq_true, Bool.not_eq_true', beq_eq_false_iff_ne, ne_eq] at hc
      exact ⟨by rw [n1, n2]; exact hn, o, c, ho, by rw [t1]; exact hg, hd, .inl ⟨hc.1, by rw [t1, d1, n1, n2, v1, u1]; exact hU, by rw [d1, n1, n2, u1]; exact hk, fun h => absurd h hc.2.1, fun h => absurd h hc.2.2⟩⟩
    · exact e3 k (by omega) h5
  | @op6 i T D nx o v c ho hg hc h6 hU hU2 hd _ ih =>
    intro V0 U0 N0 h1 h2 h3 hl
    have hlt := nth_lt ho
    obtain ⟨V, U, N, e1, e2, e3, e4⟩ := ih (fun k => if k = i then v else V0 k) (fun k => if k = i then [] else U0 k) (fun k => if k = i + 1 then nx else N0 k)
      (by simp only [Tn, dstOf, ho, Option.bind_some, if_true]; rw [← h1]; congr 1; exact Tn_congr _ fun k hk => by rw [if_neg (by omega)])
      (by simp only [Dn, if_true]; rw [← h2]; congr 1; exact Dn_congr _ fun k hk => by rw [if_neg (by omega)]) (by simp) (by omega)
    have v1 : V i = v := by rw [(e1 i (by omega)).1]; simp
    have u1 : U i = [] := by rw [(e1 i (by omega)).2]; simp
    have n1 : N i = nx := by rw [e2 i (by omega), if_neg (by omega)]; exact h3
    have n2 : N (i + 1) = nx := by rw [e2 (i + 1) (by omega)]; simp
    have t1 : Tn ops V T0 i = T := by rw [← h1]; exact Tn_congr _ fun k hk => by rw [(e1 k (by omega)).1, if_neg (by omega)]
    have d1 : Dn U i = D := by rw [← h2]; exact Dn_congr _ fun k hk => by rw [(e1 k (by omega)).2, if_neg (by omega)]
    refine ⟨V, U, N, fun k hk => by rw [(e1 k (by omega)).1, (e1 k (by omega)).2]; simp [show k ≠ i by omega], fun k hk => by rw [e2 k (by omega), if_neg (by omega)], fun k h4 h5 => ?_, e4⟩
    by_cases e : k = i
    · subst e
      exact ⟨by rw [n1, n2]; exact Nat.le_refl _, o, c, ho, by rw [t1]; exact hg, hd, .inl ⟨hc, by rw [t1, d1, n1, n2, v1, u1]; exact hU, by rw [u1]; rfl, fun _ => ⟨u1, by rw [t1, d1, n1, n2, v1, u1]; exact hU2⟩, fun h => by omega⟩⟩
    · exact e3 k (by omega) h5
  | @op7 i T D nx o v c ho hg hc h7 hU hlv hd _ ih =>
    intro V0 U0 N0 h1 h2 h3 hl
    have hlt := nth_lt ho
    obtain ⟨V, U, N, e1, e2, e3, e4⟩ := ih (fun k => if k = i then v else V0 k) (fun k => if k = i then [(al.1, some al.2)] else U0 k) (fun k => if k = i + 1 then nx else N0 k)
      (by simp only [Tn, dstOf, ho, Option.bind_some, if_true]; rw [← h1]; congr 1; exact Tn_congr _ fun k hk => by rw [if_neg (by omega)])
      (by simp only [Dn, if_true]; rw [← h2]; congr 1; exact Dn_congr _ fun k hk => by rw [if_neg (by omega)]) (by simp) (by omega)
    have v1 : V i = v := by rw [(e1 i (by omega)).1]; simp
    have u1 : U i = [(al.1, some al.2)] := by rw [(e1 i (by omega)).2]; simp
    have n1 : N i = nx := by rw [e2 i (by omega), if_neg (by omega)]; exact h3
    have n2 : N (i + 1) = nx := by rw [e2 (i + 1) (by omega)]; simp
    have t1 : Tn ops V T0 i = T := by rw [← h1]; exact Tn_congr _ fun k hk => by rw [(e1 k (by omega)).1, if_neg (by omega)]
    have d1 : Dn U i = D := by rw [← h2]; exact Dn_congr _ fun k hk => by rw [(e1 k (by omega)).2, if_neg (by omega)]
    refine ⟨V, U, N, fun k hk => by rw [(e1 k (by omega)).1, (e1 k (by omega)).2]; simp [show k ≠ i by omega], fun k hk => by rw [e2 k (by omega), if_neg (by omega)], fun k h4 h5 => ?_, e4⟩
    by_cases e : k = i
    · subst e
      exact ⟨by rw [n1, n2]; exact Nat.le_refl _, o, c, ho, by rw [t1]; exact hg, hd, .inl ⟨hc, by rw [t1, d1, n1, n2, v1, u1]; exact hU, by rw [d1, u1]; have h9 : (kl o == 7) = true := (by rw [h7]; rfl); simp only [upsOk, List.all_cons, List.all_nil, hlv, h9, Bool.or_true, Bool.and_true], fun h => by omega, fun _ => u1⟩⟩
    · exact e3 k (by omega) h5
  | @skip i T D nx o c ho hg hc hd _ ih =>
    intro V0 U0 N0 h1 h2 h3 hl
    have hlt := nth_lt ho
    obtain ⟨V, U, N, e1, e2, e3, e4⟩ := ih (fun k => if k = i then .tup [] else V0 k) (fun k => if k = i then [] else U0 k) (fun k => if k = i + 1 then nx else N0 k)
      (by simp only [Tn, dstOf, ho, Option.bind_some, if_true]; rw [← h1]; congr 1; exact Tn_congr _ fun k hk => by rw [if_neg (by omega)])
      (by simp only [Dn, if_true]; rw [← h2]; congr 1; exact Dn_congr _ fun k hk => by rw [if_neg (by omega)]) (by simp) (by omega)
    have v1 : V i = .tup [] := by rw [(e1 i (by omega)).1]; simp
    have u1 : U i = [] := by rw [(e1 i (by omega)).2]; simp
    have n1 : N i = nx := by rw [e2 i (by omega), if_neg (by omega)]; exact h3
    have n2 : N (i + 1) = nx := by rw [e2 (i + 1) (by omega)]; simp
    have t1 : Tn ops V T0 i = T := by rw [← h1]; exact Tn_congr _ fun k hk => by rw [(e1 k (by omega)).1, if_neg (by omega)]
    refine ⟨V, U, N, fun k hk => by rw [(e1 k (by omega)).1, (e1 k (by omega)).2]; simp [show k ≠ i by omega], fun k hk => by rw [e2 k (by omega), if_neg (by omega)], fun k h4 h5 => ?_, e4⟩
    by_cases e : k = i
    · subst e
      exact ⟨by rw [n1, n2]; exact Nat.le_refl _, o, c, ho, by rw [t1]; exact hg, hd, .inr ⟨hc, v1, u1⟩⟩
    · exact e3 k (by omega) h5
end
end Go.AE
end

section
namespace Go.AE
open Go.RowKit
theorem lk_only_eq {l : List Nat} {i : Nat} (hi : i ∈ l) : ∀ (T : AT), lk (only l T) i = lk T i
  | [] => rfl
  | (j, u) :: T => by
    simp only [only]
    rw [lk_cons]
    split
    · rw [lk_cons, lk_only_eq hi T]
    · rename_i hj
      rw [if_neg (by rintro rfl; simp at hj; exact hj hi), lk_only_eq hi T]
theorem wantedA_only (ops : List Oper) (T : AT) (o : Oper) : wantedA ops (only (looks ops o) T) o = wantedA ops T o := by
  unfold wantedA
  cases hg : o.guard with
  | none => rfl
  | some p =>
    obtain ⟨j, want⟩ := p
    simp only
    cases hp : nth ops j with
    | none => rfl
    | some p =>
      simp only
      cases hd : p.dst with
      | none => rfl
      | some d =>
        simp only
        rw [lk_only_eq (by simp [looks, hg, hp, hd])]
theorem selH_eq (m : Nat) (H0 : AH) (U : Nat → AH) : ∀ k, selH m H0 (Dn U k) = HS H0 U (fun j => m.testBit j) k
  | 0 => rfl
  | k + 1 => by simp only [Dn, selH, HS, selH_eq m H0 U k]
theorem allH_eq (H0 : AH) (U : Nat → AH) : ∀ k, allH H0 (Dn U k) = HS H0 U (fun _ => true) k
  | 0 => rfl
  | k + 1 => by simp only [Dn, allH, HS, allH_eq H0 U k, if_true]
theorem Tn_eq (ops : List Oper) (V : Nat → AV) (T0 : AT) : ∀ k, Tn ops V T0 k = TS ops T0 V (fun _ => true) k
  | 0 => rfl
  | k + 1 => by simp only [Tn, TS, Tn_eq ops V T0 k, if_true]
theorem TS_ext {ops : List Oper} {T0 : AT} {V : Nat → AV} {S : Nat → Bool} {k : Nat} : ∀ n, k ≤ n → (∀ m, k ≤ m → m < n → S m = false) → TS ops T0 V S n = TS ops T0 V S k
  | 0, h, _ => by have e : k = 0 := (by omega); subst e; rfl
  | n + 1, h, hS => by
    by_cases e : k = n + 1
    · rw [e]
    · simp only [TS]; rw [hS n (by omega) (by omega), if_neg (by simp), TS_ext n (by omega) fun m h1 h2 => hS m h1 (by omega)]
theorem HS_ext {H0 : AH} {U : Nat → AH} {S : Nat → Bool} {k : Nat} : ∀ n, k ≤ n → (∀ m, k ≤ m → m < n → S m = false) → HS H0 U S n = HS H0 U S k
  | 0, h, _ => by have e : k = 0 := (by omega); subst e; rfl
  | n + 1, h, hS => by
    by_cases e : k = n + 1
    · rw [e]
    · simp only [HS]; rw [hS n (by omega) (by omega), if_neg (by simp), HS_ext n (by omega) fun m h1 h2 => hS m h1 (by omega)]
theorem TS_last {ops : List Oper} {T0 : AT} {V : Nat → AV} {S : Nat → Bool} {i t : Nat} (hi : S i = true) (ht : dstOf ops i = some t) : ∀ n, i < n → (∀ j, i < j → j < n → dstOf ops j = some t → S j = false) → lk (TS ops T0 V S n) t = some (V i)
  | 0, h, _ => by omega
  | n + 1, h, hS => by
    simp only [TS]
    by_cases e : i = n
    · subst e; rw [if_pos hi, lk_putT, if_pos ht]
    · have ih := TS_last (T0 := T0) (V := V) hi ht n (by omega) fun j h1 h2 => hS j h1 (by omega)
      by_cases hd : dstOf ops n = some t
      · rw [hS n (by omega) (by omega) hd, if_neg (by simp)]; exact ih
      · split
        · rw [lk_putT, if_neg hd]; exact ih
        · exact ih
theorem HS_last {H0 : AH} {U : Nat → AH} {S : Nat → Bool} {i b : Nat} (hi : S i = true) (hb : b ∈ keysOf (U i)) : ∀ n, i < n → (∀ j, i < j → j < n → b ∈ keysOf (U j) → S j = false) → gt (HS H0 U S n) b = gt (U i) b
  | 0, h, _ => by omega
  | n + 1, h, hS => by
    simp only [HS]
    by_cases e : i = n
    · subst e; rw [if_pos hi, gt_app, if_pos hb]
    · have ih := HS_last (H0 := H0) hi hb n (by omega) fun j h1 h2 => hS j h1 (by omega)
      by_cases hd : b ∈ keysOf (U n)
      · rw [hS n (by omega) (by omega) hd, if_neg (by simp)]; exact ih
      · split
        · rw [gt_app, if_neg hd]; exact ih
        · exact ih
section
variable {al : Nat × ABlk} {C : Ctx} {kl : Oper → Nat} {ops : List Oper} {ms : List Nat} {H0 : AH} {T0 : AT} {V : Nat → AV} {U : Nat → AH} {N : Nat → Nat}
structure Inv (C : Ctx) (ops : List Oper) (T0 : AT) (H0 : AH) (V : Nat → AV) (U : Nat → AH) (N : Nat → Nat) (df : List Nat) (S : Nat → Bool) (ρ : Env) (Φ : Fz) (a : Act) (w : World) : Prop where
  dom : ∀ b, ρ b ≠ none → b < N 0 ∨ ∃ j, j < ops.length ∧ S j = true ∧ N j ≤ b ∧ b < N (j + 1)
  tm : TmpsAt ρ Φ w (TS ops T0 V S ops.length) C.nt a.tmps
  mem : Mem C.Wr C.w0 ρ Φ (gt (HS H0 U S ops.length)) w
  df : Coll C.w0.heap.size Φ w a.defers
  fz : (∀ r, Φ r → C.Φ0 r ∨ C.w0.heap.size ≤ r ∨ C.Wr r) ∧ C.Φ0.le Φ
  base : ∀ b, b < C.k0 → ρ b = C.ρ0 b
  kn : C.k0 ≤ N 0
  dk : Dk C.Φ0 C.w0 Φ w
structure Setup (al : Nat × ABlk) (C : Ctx) (kl : Oper → Nat) (ops : List Oper) (ms : List Nat) (H0 : AH) (T0 : AT) (V : Nat → AV) (U : Nat → AH) (N : Nat → Nat) : Prop where
  ck : Chk kl ops ms
  fact : ∀ k, k < ops.length → Fact al C kl ops ms H0 T0 V U N k
  live : ∀ b, gt H0 b ≠ none → b < N 0
theorem Setup.mono (h : Setup al C kl ops ms H0 T0 V U N) {a : Nat} : ∀ b, a ≤ b → b ≤ ops.length → N a ≤ N b
  | 0, h1, _ => by have e : a = 0 := (by omega); subst e; exact Nat.le_refl _
  | b + 1, h1, h2 => by
    by_cases e : a = b + 1
    · rw [e]; exact Nat.le_refl _
    · exact Nat.le_trans (h.mono b (by omega) (by omega)) (h.fact b (by omega)).le
theorem Setup.uniq (h : Setup al C kl ops ms H0 T0 V U N) {j k b : Nat} (hj : j < ops.length) (hk : k < ops.length) (h1 : N j ≤ b ∧ b < N (j + 1)) (h2 : N k ≤ b ∧ b < N (k + 1)) : j = k := by
  rcases Nat.lt_trichotomy j k with hlt | e | hlt
  · have := h.mono (a := j + 1) k (by omega) (by omega); omega
  · exact e
  · have := h.mono (a := k + 1) j (by omega) (by omega); omega
theorem bit_msk (ms : List Nat) (i j : Nat) : (msk ms i).testBit j = bit ms i j := by
  unfold msk bit; cases nth ms i <;> simp
theorem hrOf_eq {c i b : Nat} (hc : c ≠ 0) : gt (hrOf c (msk ms i) H0 (Dn U i)) b = if (c = 3 → gt H0 b ≠ none) ∧ (c = 4 → gt H0 b = none) then gt (HS H0 U (bit ms i) i) b else none := by
  have e : selH (msk ms i) H0 (Dn U i) = HS H0 U (bit ms i) i := by rw [selH_eq]; congr 1; funext j; exact bit_msk ms i j
  unfold hrOf
  split
  · exact absurd rfl hc
  · rw [e, gt_old]; simp
  · rw [e, gt_new]; simp
  · rename_i h3 h4; rw [e, if_pos ⟨fun h => absurd h h3, fun h => absurd h h4⟩]
theorem Setup.key (h : Setup al C kl ops ms H0 T0 V U N) {k b : Nat} (hk : k < ops.length) (hb : b ∈ keysOf (U k)) : (N k ≤ b ∧ b < N (k + 1)) ∨ (∃ o, nth ops k = some o ∧ (kl o = 2 ∨ kl o = 7 ∨ kl o = 4 ∧ gt H0 b = none) ∧ gt (HS H0 U (bit ms k) k) b ≠ none) := by
  obtain ⟨o, c, h1, _, _, h2⟩ := (h.fact k hk).op
  rcases h2 with ⟨_, _, h3, _⟩ | ⟨_, _, h3⟩
  · unfold upsOk at h3
    rw [List.all_eq_true] at h3
    obtain ⟨p, hp, rfl⟩ := List.mem_map.1 hb
    have := h3 p hp
    simp only [Bool.or_eq_true, Bool.and_eq_true, Nat.ble_eq, Nat.blt_eq, beq_iff_eq] at this
    rcases this with h4 | ⟨h4, h5⟩
    · exact .inl h4
    · refine .inr ⟨o, h1, ?_, ?_⟩
      · rcases h4 with h4 | h4
        · rcases h4 with h4 | h4
          · exact .inl h4
          · refine .inr (.inr ⟨h4, ?_⟩)
            rw [hrOf_eq (by omega)] at h5
            split at h5
            · rename_i h6; exact h6.2 h4
            · cases h5
        · exact .inr (.inl h4)
      · rw [hrOf_eq (by omega)] at h5
        intro e; rw [e] at h5
        split at h5 <;> cases h5
  · rw [h3] at hb; simp [keysOf] at hb
theorem Setup.livek (h : Setup al C kl ops ms H0 T0 V U N) : ∀ i, i < ops.length → ∀ b, gt (HS H0 U (bit ms i) i) b ≠ none → b < N 0 ∨ ∃ m, m < i ∧ bit ms i m = true ∧ N m ≤ b ∧ b < N (m + 1) := by
  intro i
  induction i using Nat.strongRecOn with
  | _ i ih =>
    intro hi b hb
    rcases HS_live i hb with h1 | ⟨k, hk, hbit, hkey⟩
    · exact .inl (h.live b h1)
    · rcases h.key (by omega) hkey with h2 | ⟨o, h3, h4, h5⟩
      · exact .inr ⟨k, hk, hbit, h2⟩
      · rcases ih k hk (by omega) b h5 with h6 | ⟨m, h6, h7, h8⟩
        · exact .inl h6
        · exact .inr ⟨m, by omega, h.ck.trans i k m hi (by omega) (by omega) hbit h7, h8⟩
theorem clash_of (h : Chk kl ops ms) {i j : Nat} (hi : i < ops.length) (hj : j < ops.length) (hne : j ≠ i) (h1 : j < i → clash kl ops j i = true) (h2 : i < j → clash kl ops i j = true) : bit ms i j = true ∨ bit ms j i = true := by
  rcases Nat.lt_or_gt_of_ne hne with h3 | h3
  · exact .inl (h.cl i hi j h3 (h1 h3))
  · exact .inr (h.cl j hj i h3 (h2 h3))
theorem clash_cls {i j : Nat} {p q : Oper} (hp : nth ops i = some p) (hq : nth ops j = some q) (h : ((kl p = 2 ∨ kl p = 7) ∧ kl q ≠ 0 ∧ ¬ (kl p = 7 ∧ kl q = 6)) ∨ (kl p ≠ 0 ∧ (kl q = 2 ∨ kl q = 7) ∧ ¬ (kl p = 6 ∧ kl q = 7)) ∨ (kl p = 4 ∧ kl q ≠ 0 ∧ kl q ≠ 3) ∨ (kl q = 4 ∧ kl p ≠ 0 ∧ kl p ≠ 3)) : clash kl ops i j = true := by
  unfold clash; rw [hp, hq]
  have w : ∀ {c : Nat}, c = 2 ∨ c = 7 → wrC c = true := fun h => by rcases h with rfl | rfl <;> rfl
  rcases h with ⟨h1, h2, h3⟩ | ⟨h1, h2, h3⟩ | ⟨h1, h2, h3⟩ | ⟨h1, h2, h3⟩
  · have h4 : (!(kl p == 7 && kl q == 6)) = true := by
      by_cases a : kl p = 7 <;> by_cases b : kl q = 6 <;> simp [a, b] <;> exact h3 ⟨a, b⟩
    simp only [w h1, h4, Bool.true_and, Bool.and_true]
    simp [h2]
  · have h4 : (!(kl p == 6 && kl q == 7)) = true := by
      by_cases a : kl p = 6 <;> by_cases b : kl q = 7 <;> simp [a, b] <;> exact h3 ⟨a, b⟩
    simp only [w h2, h4, Bool.and_true]
    simp [h1]
  · simp [h1, h2, h3]
  · simp [h1, h2, h3]
theorem clash_dst {i j t : Nat} {p q : Oper} (hp : nth ops i = some p) (hq : nth ops j = some q) (h : (p.dst = some t ∧ (t ∈ looks ops q ∨ q.dst = some t)) ∨ (q.dst = some t ∧ t ∈ looks ops p)) : clash kl ops i j = true := by
  unfold clash; rw [hp, hq]
  rcases h with ⟨h1, h2 | h2⟩ | ⟨h1, h2⟩ <;> simp [h1, h2]
theorem wantedA_pre {l m : List Oper} (h : ∀ k p, nth l k = some p → nth m k = some p) {T : AT} {o : Oper} {c : Bool} (hc : wantedA l T o = some c) : wantedA m T o = some c := by
  unfold wantedA at hc ⊢
  cases hg : o.guard with
  | none => rw [hg] at hc; exact hc
  | some q =>
    obtain ⟨j, want⟩ := q
    rw [hg] at hc
    simp only at hc ⊢
    cases hp : nth l j with
    | none => rw [hp] at hc; cases hc
    | some p => rw [hp] at hc; rw [h _ _ hp]; exact hc
theorem Setup.step (hs : Setup al C kl ops ms H0 T0 V U N) {df : List Nat} {S : Nat → Bool} {ρ : Env} {Φ : Fz} {a : Act} {w : World} (hI : Inv C ops T0 H0 V U N df S ρ Φ a w) {i : Nat} (hi : i < ops.length) (hSi : S i = false)
    (hcl : ∀ j, j < ops.length → S j = true → ∀ k, k < ops.length → bit ms j k = true → S k = true) (hdep : ∀ j, j < ops.length → bit ms i j = true → S j = true) {arr : Array Oper} (harr : ∀ k p, nth ops k = some p → nth arr.toList k = some p) {Q : Exit → Act → World → Prop} {K : Act → World → Prop}
    (hK : ∀ ρ' Φ' a' w', Inv C ops T0 H0 V U N df (fun j => if j = i then true else S j) ρ' Φ' a' w' → K a' w') : wpOpIn C.F 0 C.P arr Q i K a w := by
  obtain ⟨hle, o, c, ho, hw, hd, hres⟩ := hs.fact i hi
  have not_later : ∀ j, j < ops.length → S j = true → bit ms j i = true → False := fun j hj h1 h2 => by have := hcl j hj h1 i hi h2; rw [hSi] at this; cases this
  -- the slots that it looks at
  have hto : TmpsAt ρ Φ w (only (looks ops o) (Tn ops V T0 i)) C.nt a.tmps := by
    refine ⟨hI.tm.size, fun t v ht => ?_⟩
    obtain ⟨h1, h2⟩ := lk_only _ _ _ _ ht
    refine hI.tm.at_ t v ?_
    rw [← h2, Tn_eq]
    have e1 : lk (TS ops T0 V (fun j => decide (j < i)) ops.length) t = lk (TS ops T0 V (fun _ => true) i) t := by
      rw [TS_ext (k := i) ops.length (Nat.le_of_lt hi) (fun m h3 _ => by simp; omega)]
      exact TS_congr i fun j hj _ => by simp [hj]
    rw [← e1]
    refine TS_congr ops.length fun j hj hdj => ?_
    obtain ⟨q, hq⟩ := nth_some hj
    have hqd : q.dst = some t := by simpa [dstOf, hq] using hdj
    by_cases e : j = i
    · subst e; simp [hSi]
    · rcases clash_of hs.ck hi hj e (fun _ => clash_dst hq ho (.inl ⟨hqd, .inl h1⟩)) (fun _ => clash_dst ho hq (.inr ⟨hqd, h1⟩)) with h3 | h3
      · have := hs.ck.below i j hi hj h3
        rw [hdep j hj h3]; simp [this]
      · have h4 := hs.ck.below j i hj hi h3
        have : S j = false := by
          cases e : S j with
          | false => rfl
          | true => exact (not_later j hj e h3).elim
        rw [this]; simp; omega
  have hwant : Region.wanted o (yielded arr a.tmps) = c := by
    refine wantedA_eq (T := only (looks ops o) (Tn ops V T0 i)) (ops := arr) hto ?_
    refine wantedA_pre harr ?_
    rw [wantedA_only]; exact hw
  have harr_i : arr[i]? = some o := by rw [← Array.getElem?_toList, ← nth_eq]; exact harr _ _ ho
  -- the slots behind it
  have htm : ∀ t, lk (TS ops T0 V (fun j => if j = i then true else S j) ops.length) t = lk (putT o.dst (V i) (TS ops T0 V S ops.length)) t := by
    intro t
    rw [lk_putT]
    split
    · rename_i hdi
      refine TS_last (by simp) (by simp [dstOf, ho, hdi]) ops.length hi fun j h1 h2 h3 => ?_
      obtain ⟨q, hq⟩ := nth_some h2
      have hqd : q.dst = some t := by simpa [dstOf, hq] using h3
      rw [if_neg (by omega)]
      cases e : S j with
      | false => rfl
      | true => exact (not_later j h2 e (hs.ck.cl j h2 i h1 (clash_dst ho hq (.inl ⟨hdi, .inr hqd⟩)))).elim
    · rename_i hdi
      refine TS_congr ops.length fun j _ h3 => ?_
      rw [if_neg]
      rintro rfl
      exact hdi (by simpa [dstOf, ho] using h3)
  unfold wpOpIn
  rw [harr_i]
  simp only
  rw [hwant]
  rcases hres with ⟨rfl, hU, hups, h6, h7⟩ | ⟨rfl, hV, hUi⟩
  · rw [if_pos rfl]
    have hfresh : ∀ b, N i ≤ b → b < N (i + 1) → ρ b = none := fun b h1 h2 => by
      cases e : ρ b with
      | none => rfl
      | some x =>
        rcases hI.dom b (by rw [e]; simp) with h3 | ⟨j, hj, h4, h5⟩
        · have := hs.mono (a := 0) i (Nat.zero_le _) (Nat.le_of_lt hi); omega
        · have := hs.uniq hj hi h5 ⟨h1, h2⟩; subst this; rw [hSi] at h4; cases h4
    -- what it may know is as it is now
    have hsubS : kl o ≠ 0 → ∀ S' : Nat → Bool, (∀ j, S' j = true → S j = true) → (∀ j, j < ops.length → bit ms i j = true → S' j = true) → (kl o = 6 → ∀ j q, nth ops j = some q → kl q = 7 → S' j = true → bit ms i j = true) → ∀ b, (kl o = 3 → gt H0 b ≠ none) → gt (HS H0 U (bit ms i) i) b ≠ none → gt (HS H0 U S' ops.length) b = gt (HS H0 U (bit ms i) i) b := by
      intro hc S' hle' hdep' h67 b hc3 hb
      rw [← HS_ext (S := bit ms i) ops.length (Nat.le_of_lt hi) (fun m h1 h2 => by
        cases e : bit ms i m with
        | false => rfl
        | true => have := hs.ck.below i m hi h2 e; omega)]
      refine HS_congr ops.length fun j hj hkey => ?_
      cases hbit : bit ms i j with
      | true => exact hdep' j hj hbit
      | false =>
        cases e' : S' j with
        | false => rfl
        | true =>
          exfalso
          have e := hle' j e'
          have hji : j ≠ i := by rintro rfl; rw [hSi] at e; cases e
          rcases hs.key hj hkey with h1 | ⟨q, h1, h2, _⟩
          · rcases hs.livek i hi b hb with h3 | ⟨m, h3, h4, h5⟩
            · have := hs.mono (a := 0) j (Nat.zero_le _) (Nat.le_of_lt hj); omega
            · have := hs.uniq hj (by omega) h1 h5; subst this; rw [hbit] at h4; cases h4
          · have hn67 : ¬ (kl q = 7 ∧ kl o = 6) := fun ⟨a, b⟩ => by have := h67 b j q h1 a e'; rw [hbit] at this; cases this
            have hw : ((kl q = 2 ∨ kl q = 7) ∧ kl o ≠ 0) ∨ (kl q = 4 ∧ kl o ≠ 0 ∧ kl o ≠ 3) := by
              rcases h2 with h | h | h
              · exact .inl ⟨.inl h, hc⟩
              · exact .inl ⟨.inr h, hc⟩
              · exact .inr ⟨h.1, hc, fun e => hc3 e h.2⟩
            rcases clash_of hs.ck hi hj hji (fun _ => clash_cls h1 ho (hw.elim (fun h => .inl ⟨h.1, h.2, hn67⟩) fun h => .inr (.inr (.inl h)))) (fun _ => clash_cls ho h1 (hw.elim (fun h => .inr (.inl ⟨h.2, h.1, fun ⟨a, b⟩ => hn67 ⟨b, a⟩⟩)) fun h => .inr (.inr (.inr h)))) with h3 | h3
            · rw [hbit] at h3; cases h3
            · exact not_later j hj e h3
    have hsub : kl o ≠ 0 → kl o ≠ 6 → ∀ b, (kl o = 3 → gt H0 b ≠ none) → gt (HS H0 U (bit ms i) i) b ≠ none → gt (HS H0 U S ops.length) b = gt (HS H0 U (bit ms i) i) b := fun h1 h2 => hsubS h1 S (fun _ h => h) hdep fun h => absurd h h2
    have hmr : kl o ≠ 6 → Mem C.Wr C.w0 ρ Φ (gt (hrOf (kl o) (msk ms i) H0 (Dn U i))) w := by
      intro hc6
      by_cases hc : kl o = 0
      · rw [hc]; exact hI.mem.less fun b k hb => by simp [hrOf, gt] at hb
      · exact hI.mem.less fun b k hb => by
          rw [hrOf_eq hc] at hb
          split at hb
          · rename_i hcc
            rw [hsub hc hc6 b hcc.1 (by rw [hb]; simp)]; exact hb
          · cases hb
    have hrun : ∀ (K : Act → World → Prop), (∀ ρ' Φ' x w', Post C.Wr C.w0 ρ Φ w (N i) (N (i + 1)) (keysOf (U i)) (gt (U i ++ if kl o = 6 then [] else hrOf (kl o) (msk ms i) H0 (Dn U i))) ρ' Φ' w' → Con ρ' Φ' w' (V i) x → K (a.put o.dst x) w') → o.wpIn C.F 0 C.P a w K Q := by
      intro K hK
      by_cases hc6 : kl o = 6
      · obtain ⟨hUn, hU2⟩ := h6 hc6
        -- those of class 7 that are not known to have been are left out
        let S' : Nat → Bool := fun j => S j && (bit ms i j || !(match nth ops j with | some q => kl q == 7 | none => false))
        have hS' : ∀ b, gt (HS H0 U (bit ms i) i) b ≠ none → gt (HS H0 U S' ops.length) b = gt (HS H0 U (bit ms i) i) b := fun b hb => by
          refine hsubS (by omega) S' (fun j h => ?_) (fun j hj h => ?_) (fun _ j q hq h7 h => ?_) b (fun h => by omega) hb
          · simp only [S', Bool.and_eq_true] at h; exact h.1
          · simp only [S', h, Bool.true_or, Bool.and_true]; exact hdep j hj h
          · simp only [S', hq, h7, Bool.and_eq_true, Bool.or_eq_true] at h
            exact h.2.resolve_right (by simp)
        have hcase : ∀ n, n ≤ ops.length → ∀ b, gt (HS H0 U S n) b = gt (HS H0 U S' n) b ∨ (b = al.1 ∧ gt (HS H0 U S n) b = some al.2) := by
          intro n
          induction n with
          | zero => intro _ b; exact .inl rfl
          | succ n ih =>
            intro hn b
            have ih := ih (by omega) b
            simp only [HS]
            cases e1 : S' n with
            | true =>
              have e2 : S n = true := by simp only [S', Bool.and_eq_true] at e1; exact e1.1
              rw [e2, if_pos rfl, if_pos rfl, gt_app, gt_app]
              split
              · exact .inl rfl
              · exact ih
            | false =>
              cases e2 : S n with
              | false => simpa using ih
              | true =>
                rw [if_pos rfl, if_neg (by simp), gt_app]
                split
                · rename_i hb
                  right
                  obtain ⟨q, hq⟩ := nth_some (ops := ops) (i := n) (by omega)
                  have h7 : kl q = 7 := by
                    simp only [S', e2, hq, Bool.true_and, Bool.or_eq_false_iff, Bool.not_eq_false', beq_iff_eq] at e1
                    exact e1.2
                  obtain ⟨o', c', f1, _, _, f2⟩ := (hs.fact n (by omega)).op
                  rw [hq] at f1; cases f1
                  have hUn7 : U n = [(al.1, some al.2)] := by
                    rcases f2 with ⟨_, _, _, _, f3⟩ | ⟨_, _, f3⟩
                    · exact f3 h7
                    · rw [f3] at hb; simp [keysOf] at hb
                  rw [hUn7] at hb ⊢
                  simp only [keysOf, List.map_cons, List.map_nil, List.mem_singleton] at hb
                  subst hb
                  exact ⟨rfl, by simp [gt_cons]⟩
                · exact ih
        have hknow : ∀ b k, gt (hrOf (kl o) (msk ms i) H0 (Dn U i)) b = some k → gt (HS H0 U (bit ms i) i) b = some k := fun b k hb => by
          rw [hrOf_eq (by omega)] at hb
          split at hb
          · exact hb
          · cases hb
        by_cases hX : gt (HS H0 U S ops.length) al.1 = some al.2
        · have hm2 : Mem C.Wr C.w0 ρ Φ (gt ((al.1, some al.2) :: hrOf (kl o) (msk ms i) H0 (Dn U i))) w := hI.mem.less fun b k hb => by
            rw [gt_cons] at hb
            split at hb
            · rename_i e; subst e; rw [hX]; exact hb
            · rename_i e
              have h1 := hknow b k hb
              rcases hcase ops.length (Nat.le_refl _) b with h2 | ⟨h2, _⟩
              · rw [h2, hS' b (by rw [h1]; simp)]; exact h1
              · exact absurd h2.symm e
          refine hU2 ρ Φ a w hfresh hto hm2 K Q fun ρ' Φ' x w' hp hx => hK ρ' Φ' x w' ?_ hx
          rw [if_pos hc6]
          rw [hUn] at hp ⊢
          exact ⟨hp.le, hp.dom, hp.fle, hp.fnew, hp.keep, hp.stab, fun b x h => absurd rfl h, hp.mem.less fun b k hb => by simp [gt] at hb, hp.dk⟩
        · have hm2 : Mem C.Wr C.w0 ρ Φ (gt (hrOf (kl o) (msk ms i) H0 (Dn U i))) w := hI.mem.less fun b k hb => by
            have h1 := hknow b k hb
            rcases hcase ops.length (Nat.le_refl _) b with h2 | ⟨h2, h3⟩
            · rw [h2, hS' b (by rw [h1]; simp)]; exact h1
            · subst h2; exact absurd h3 hX
          refine hU ρ Φ a w hfresh hto hm2 K Q fun ρ' Φ' x w' hp hx => hK ρ' Φ' x w' ?_ hx
          rw [if_pos hc6]
          rw [hUn] at hp ⊢
          exact ⟨hp.le, hp.dom, hp.fle, hp.fnew, hp.keep, hp.stab, fun b x h => absurd rfl h, hp.mem.less fun b k hb => by simp [gt] at hb, hp.dk⟩
      · exact hU ρ Φ a w hfresh hto (hmr hc6) K Q fun ρ' Φ' x w' hp hx => hK ρ' Φ' x w' (by rw [if_neg hc6]; exact hp) hx
    refine hrun K fun ρ' Φ' x w' hp hx => hK ρ' Φ' _ w' ?_
    -- a number that it turns and that was there is one that is known
    have hold : ∀ b, b ∈ keysOf (U i) → ρ b ≠ none → gt (HS H0 U S ops.length) b ≠ none := by
      intro b hb hne
      rcases hs.key hi hb with h1 | ⟨q, h1, h2, h3⟩
      · exact absurd (hfresh b h1.1 h1.2) hne
      · rw [ho] at h1; cases h1
        rw [hsub (by omega) (by omega) b (fun e => by omega) h3]; exact h3
    have hG : ∀ b, gt (HS H0 U (fun j => if j = i then true else S j) ops.length) b = if b ∈ keysOf (U i) then gt (U i) b else gt (HS H0 U S ops.length) b := by
      intro b
      split
      · rename_i hb
        refine HS_last (by simp) hb ops.length hi fun j h1 h2 h3 => ?_
        rw [if_neg (by omega)]
        cases e : S j with
        | false => rfl
        | true =>
          exfalso
          rcases hs.key hi hb with h4 | ⟨q, h4, h5, h6⟩
          · rcases hs.key h2 h3 with h7 | ⟨q', h7, h8, h9⟩
            · have := hs.uniq hi h2 h4 h7; omega
            · rcases hs.livek j h2 b h9 with h10 | ⟨m, h10, h11, h12⟩
              · have := hs.mono (a := 0) i (Nat.zero_le _) (Nat.le_of_lt hi); omega
              · have := hs.uniq (by omega) hi h12 h4; subst this; exact not_later j h2 e h11
          · rw [ho] at h4; cases h4
            rcases hs.key h2 h3 with h7 | ⟨q', h7, h8, h9⟩
            · rcases hs.livek i hi b h6 with h10 | ⟨m, h10, h11, h12⟩
              · have := hs.mono (a := 0) j (Nat.zero_le _) (Nat.le_of_lt h2); omega
              · have := hs.uniq (by omega) h2 h12 h7; omega
            · exact not_later j h2 e (hs.ck.cl j h2 i h1 (clash_cls ho h7 (by
              rcases h5 with h | h | h
              · exact .inl ⟨.inl h, by omega, by omega⟩
              · exact .inl ⟨.inr h, by omega, by omega⟩
              · exact .inr (.inr (.inl ⟨h.1, by omega, by omega⟩)))))
      · rename_i hb
        refine HS_congr ops.length fun j _ h3 => ?_
        rw [if_neg]; rintro rfl; exact hb h3
    have same : ∀ b x, b ∉ keysOf (U i) → gt (HS H0 U S ops.length) b ≠ none → ρ b = some x → ¬ img ρ (keysOf (U i)) x.1 := by
      rintro b x hb hl hx ⟨b', hb', x', h1, h2⟩
      have := hI.mem.inj b b' x x' hl (hold b' hb' (by rw [h1]; simp)) hx h1 h2.symm
      subst this; exact hb hb'
    have oldlive : ∀ b, b ∉ keysOf (U i) → gt (HS H0 U S ops.length) b ≠ none → ∃ x, ρ b = some x ∧ ρ' b = some x ∧ x.1 < w.heap.size := by
      intro b hb hl
      cases e : gt (HS H0 U S ops.length) b with
      | none => exact absurd e hl
      | some k =>
        obtain ⟨x, ob, h1, h2, _⟩ := hI.mem.at_ b k e
        exact ⟨x, h1, hp.le _ _ h1, (Array.getElem?_eq_some_iff.1 h2).1⟩
    have newlive : ∀ b, b ∈ keysOf (U i) → gt (U i) b ≠ none → gt (U i ++ if kl o = 6 then [] else hrOf (kl o) (msk ms i) H0 (Dn U i)) b ≠ none := fun b hb hl => by rw [gt_app, if_pos hb]; exact hl
    have cross : ∀ b b' x x', b ∈ keysOf (U i) → gt (U i) b ≠ none → b' ∉ keysOf (U i) → gt (HS H0 U S ops.length) b' ≠ none → ρ' b = some x → ρ' b' = some x' → x.1 ≠ x'.1 := by
      intro b b' x x' hb hl hb' hl' hx hx' heq
      obtain ⟨y, e1, e2, e3⟩ := oldlive b' hb' hl'
      rw [hx'] at e2; cases e2
      cases e4 : ρ b with
      | some z =>
        have e5 := hp.le _ _ e4
        rw [hx] at e5; cases e5
        have := hI.mem.inj b b' x x' (hold b hb (by rw [e4]; simp)) hl' e4 e1 heq
        subst this; exact hb' hb
      | none =>
        rcases hp.bnew b x (newlive b hb hl) e4 hx with h1 | h1
        · omega
        · exact same b' x' hb' hl' e1 (heq ▸ h1)
    have hbase : ∀ b, b < C.k0 → ρ' b = C.ρ0 b := fun b h1 => by
      rw [← hI.base b h1]
      cases e : ρ b with
      | some x => exact hp.le _ _ e
      | none =>
        cases e2 : ρ' b with
        | none => rfl
        | some y =>
          rcases hp.dom b (by rw [e2]; simp) with h2 | h2
          · exact absurd e h2
          · have := hs.mono (a := 0) i (Nat.zero_le _) (Nat.le_of_lt hi); have := hI.kn; omega
    refine ⟨fun b hb => ?_, ⟨by have := hI.tm.size; cases o.dst <;> simp [Act.put, this], fun t v ht => ?_⟩, ⟨fun b k hb => ?_, fun b b' x x' h1 h2 h3 h4 h5 => ?_, fun b x h1 h2 => ?_, fun b x h1 h2 => ?_, hp.mem.frz, hp.mem.keep⟩, by rw [put_defers]; exact hI.df.mono hp.dk, ⟨fun r hr => (hp.fnew r hr).elim (hI.fz.1 r) fun h1 => h1.elim (fun h2 => .inr (.inl (Nat.le_trans hI.mem.keep.size h2))) fun h2 => .inr h2.2.symm, Fz.le_trans hI.fz.2 hp.fle⟩, fun b h1 => hbase b h1, hI.kn, hI.dk.trans hp.dk⟩
    · rcases hp.dom b hb with h1 | h1
      · exact (hI.dom b h1).imp id fun ⟨j, h2, h3, h4⟩ => ⟨j, h2, by simp [h3], h4⟩
      · exact .inr ⟨i, hi, by simp, h1⟩
    · rw [htm] at ht
      exact ((hI.tm.mono hp.le hp.fle hp.stab).put hx hd).at_ t v ht
    · rw [hG] at hb
      split at hb
      · rename_i hk
        exact hp.mem.at_ b k (by rw [gt_app, if_pos hk]; exact hb)
      · rename_i hk
        obtain ⟨x, ob, h1, h2, h3⟩ := hI.mem.at_ b k hb
        exact ⟨x, ob, hp.le _ _ h1, (hp.keep.block _ (Array.getElem?_eq_some_iff.1 h2).1 (same b x hk (by rw [hb]; simp) h1)).trans h2, h3.mono hp.le hp.fle hp.stab⟩
    · rw [hG] at h1 h2
      split at h1
      · rename_i hk
        split at h2
        · rename_i hk'
          exact hp.mem.inj b b' x x' (newlive b hk h1) (newlive b' hk' h2) h3 h4 h5
        · rename_i hk'
          exact absurd h5 (cross b b' x x' hk h1 hk' h2 h3 h4)
      · rename_i hk
        split at h2
        · rename_i hk'
          exact absurd h5.symm (cross b' b x' x hk' h2 hk h1 h4 h3)
        · rename_i hk'
          obtain ⟨y, e1, e2, _⟩ := oldlive b hk h1
          obtain ⟨y', e3, e4, _⟩ := oldlive b' hk' h2
          rw [h3] at e2; cases e2; rw [h4] at e4; cases e4
          exact hI.mem.inj b b' x x' h1 h2 e1 e3 h5
    · rw [hG] at h1
      split at h1
      · rename_i hk; exact hp.mem.free b x (newlive b hk h1) h2
      · rename_i hk
        obtain ⟨y, e1, e2, e3⟩ := oldlive b hk h1
        rw [h2] at e2; cases e2
        intro hf
        rcases hp.fnew _ hf with h3 | h3 | h3
        · exact hI.mem.free b x h1 e1 h3
        · omega
        · exact same b x hk h1 e1 h3.1
    · rw [hG] at h1
      split at h1
      · rename_i hk; exact hp.mem.own b x (newlive b hk h1) h2
      · rename_i hk
        obtain ⟨y, e1, e2, _⟩ := oldlive b hk h1
        rw [h2] at e2; cases e2
        exact hI.mem.own b x h1 e1
  · rw [if_neg (by simp)]
    refine ⟨fun _ _ => trivial, hK ρ Φ _ w ⟨fun b hb => (hI.dom b hb).imp id fun ⟨j, h2, h3, h4⟩ => ⟨j, h2, by simp [h3], h4⟩, ⟨by have := hI.tm.size; cases o.dst <;> simp [Act.put, this], fun t v ht => ?_⟩, hI.mem.congr fun b => HS_congr ops.length fun j _ h3 => ?_, by rw [put_defers]; exact hI.df, hI.fz, hI.base, hI.kn, hI.dk⟩⟩
    · rw [htm, hV] at ht
      exact (hI.tm.put (v := .tup []) (x := undef) (by simp [Con, undef, ConL]) hd).at_ t v ht
    · rw [if_neg]; rintro rfl; rw [hUi] at h3; simp [keysOf] at h3
def cnt (S : Nat → Bool) : Nat → Nat
  | 0 => 0
  | n + 1 => cnt S n + if S n then 0 else 1
theorem cnt_upd {S : Nat → Bool} {i : Nat} (hS : S i = false) : ∀ n, (n ≤ i → cnt (fun j => if j = i then true else S j) n = cnt S n) ∧ (i < n → cnt (fun j => if j = i then true else S j) n + 1 = cnt S n)
  | 0 => ⟨fun _ => rfl, fun h => by omega⟩
  | n + 1 => by
    obtain ⟨h1, h2⟩ := cnt_upd hS n
    refine ⟨fun h => ?_, fun h => ?_⟩
    · have e : n ≠ i := by omega
      simp only [cnt]; rw [h1 (by omega)]; simp [e]
    · by_cases e : n = i
      · subst e; simp only [cnt]; rw [h1 (Nat.le_refl _)]; simp [hS]
      · have := h2 (by omega); simp only [cnt, e, if_false]; omega
theorem cnt_zero {S : Nat → Bool} : ∀ n, cnt S n = 0 → ∀ j, j < n → S j = true
  | 0, _, j, hj => by omega
  | n + 1, h, j, hj => by
    simp only [cnt] at h
    by_cases e : j = n
    · subst e; by_cases hs : S j = true
      · exact hs
      · rw [if_neg hs] at h; omega
    · exact cnt_zero n (by omega) j (by omega)
theorem Inv.conc (hs : Setup al C kl ops ms H0 T0 V U N) {df : List Nat} {S : Nat → Bool} {ρ : Env} {Φ : Fz} {a : Act} {w : World} (hI : Inv C ops T0 H0 V U N df S ρ Φ a w) (hall : ∀ j, j < ops.length → S j = true) : Conc C ⟨Tn ops V T0 ops.length, allH H0 (Dn U ops.length), N ops.length, df⟩ ρ Φ a w := by
  refine ⟨fun b hb => ?_, ⟨hI.tm.size, fun t v ht => hI.tm.at_ t v ?_⟩, hI.mem.congr fun b => ?_, hI.df, hI.fz, hI.base, Nat.le_trans hI.kn (hs.mono (a := 0) ops.length (Nat.zero_le _) (Nat.le_refl _)), hI.dk⟩
  · rcases hI.dom b hb with h1 | ⟨j, h1, _, _, h2⟩
    · have := hs.mono (a := 0) ops.length (Nat.zero_le _) (Nat.le_refl _); show b < N ops.length; omega
    · have := hs.mono (a := j + 1) ops.length h1 (Nat.le_refl _); show b < N ops.length; omega
  · have h2 : lk (Tn ops V T0 ops.length) t = some v := ht
    rw [← h2, Tn_eq]; exact TS_congr _ fun j hj _ => hall j hj
  · show gt (allH H0 (Dn U ops.length)) b = _
    rw [allH_eq]; exact HS_congr _ fun j hj _ => (hall j hj).symm
theorem ready_iff {arr : Array Oper} (harr : arr.toList = ops) {listed : Array Bool} {i : Nat} : i ∈ Region.ready .any arr listed ↔ i < ops.length ∧ listed.getD i true = false ∧ ∃ o, nth ops i = some o ∧ ∀ e ∈ edges o, listed.getD e false = true := by
  unfold Region.ready
  have hsz : arr.size = ops.length := by rw [← harr]; simp
  rw [List.mem_filter, List.mem_range, hsz]
  refine and_congr_right fun hi => ?_
  obtain ⟨o, ho⟩ := nth_some hi
  have ho' : arr[i]? = some o := by rw [← Array.getElem?_toList, harr, ← nth_eq]; exact ho
  rw [ho']
  simp only [Option.map_some, Option.getD_some, Bool.and_eq_true, Bool.not_eq_true']
  refine and_congr_right fun _ => ?_
  rw [← Array.all_toList, List.all_eq_true]
  constructor
  · intro h
    refine ⟨o, ho, fun e he => ?_⟩
    obtain ⟨x, hx, rfl⟩ := List.mem_map.1 he
    rw [List.mem_filter] at hx
    have := h x hx.1
    simpa [hx.2] using this
  · rintro ⟨o', h1, h2⟩ x hx
    rw [ho] at h1; cases h1
    cases hb : Region.binds .any x with
    | false => simp
    | true => simpa using h2 x.on (List.mem_map.2 ⟨x, List.mem_filter.2 ⟨hx, hb⟩, rfl⟩)
theorem Setup.any (hs : Setup al C kl ops ms H0 T0 V U N) {df : List Nat} {arr : Array Oper} (harr : arr.toList = ops) {Q : Exit → Act → World → Prop}
    (hQ : ∀ ρ' Φ' a' w', Conc C ⟨Tn ops V T0 ops.length, allH H0 (Dn U ops.length), N ops.length, df⟩ ρ' Φ' a' w' → Q .normal a' w') :
    ∀ (fuel : Nat) (listed : Array Bool) (ρ : Env) (Φ : Fz) (a : Act) (w : World), listed.size = ops.length → cnt (fun j => listed.getD j true) ops.length ≤ fuel →
      (∀ j, j < ops.length → listed.getD j true = true → ∀ k, k < ops.length → bit ms j k = true → listed.getD k true = true) →
      (∀ j o, j < ops.length → nth ops j = some o → listed.getD j true = true → ∀ e ∈ edges o, listed.getD e true = true) →
      Inv C ops T0 H0 V U N df (fun j => listed.getD j true) ρ Φ a w → wpAnyIn C.F 0 C.P .any arr Q fuel listed a w := by
  have done : ∀ (listed : Array Bool), listed.size = ops.length → (∀ j, j < ops.length → listed.getD j true = true) → Region.ready .any arr listed = [] := by
    intro listed _ h
    rw [List.eq_nil_iff_forall_not_mem]
    intro i hi
    obtain ⟨h1, h2, _⟩ := (ready_iff harr).1 hi
    rw [h i h1] at h2; cases h2
  have getD_in : ∀ (listed : Array Bool) (e : Nat), listed.size = ops.length → e < ops.length → listed.getD e false = listed.getD e true := fun listed e h1 h2 => by
    simp [Array.getD_eq_getD_getElem?, h1, h2]
  intro fuel
  induction fuel with
  | zero =>
    intro listed ρ Φ a w hsz hc _ _ hI
    have hall := cnt_zero ops.length (by omega : cnt (fun j => listed.getD j true) ops.length = 0)
    exact ⟨done listed hsz hall, hQ ρ Φ a w (hI.conc hs hall)⟩
  | succ fuel ih =>
    intro listed ρ Φ a w hsz hc hcl hed hI
    refine ⟨fun hnil => ?_, fun i hi => ?_⟩
    · -- all have been: else one of the least number might be next
      have hall : ∀ j, j < ops.length → listed.getD j true = true := by
        intro j
        induction j using Nat.strongRecOn with
        | _ j ihj =>
          intro hj
          cases e : listed.getD j true with
          | true => rfl
          | false =>
            exfalso
            obtain ⟨o, ho⟩ := nth_some hj
            have : j ∈ Region.ready .any arr listed := (ready_iff harr).2 ⟨hj, e, o, ho, fun e' he' => by
              have hlt := hs.ck.lt j o hj ho e' he'
              rw [getD_in listed e' hsz (by omega)]; exact ihj e' hlt (by omega)⟩
            rw [hnil] at this; cases this
      exact hQ ρ Φ a w (hI.conc hs hall)
    · obtain ⟨h1, h2, o, ho, h3⟩ := (ready_iff harr).1 hi
      have hnew : ∀ j, (listed.setIfInBounds i true).getD j true = (if j = i then true else listed.getD j true) := by
        intro j
        simp only [Array.getD_eq_getD_getElem?, Array.getElem?_setIfInBounds]
        by_cases e : j = i
        · subst e; simp [hsz, h1]
        · rw [if_neg (fun h => e h.symm), if_neg e]
      have hdir : ∀ e ∈ edges o, listed.getD e true = true := fun e he => by
        have hlt := hs.ck.lt i o h1 ho e he
        rw [← getD_in listed e hsz (by omega)]; exact h3 e he
      have hdep : ∀ j, j < ops.length → bit ms i j = true → listed.getD j true = true :=
        hs.ck.closed i h1 (S := fun j => listed.getD j true) hed (fun o' ho' e he => by rw [ho] at ho'; cases ho'; exact hdir e he)
      refine hs.step hI h1 h2 hcl hdep (fun k p hp => by rw [harr]; exact hp) fun ρ' Φ' a' w' hI' => ?_
      refine ih _ ρ' Φ' a' w' (by simp [hsz]) ?_ ?_ ?_ ?_
      · have := (cnt_upd (S := fun j => listed.getD j true) h2 ops.length).2 h1
        have e : cnt (fun j => (listed.setIfInBounds i true).getD j true) ops.length = cnt (fun j => if j = i then true else listed.getD j true) ops.length := by congr 1; funext j; exact hnew j
        rw [e]; omega
      · intro j hj hj2 k hk hb
        rw [hnew] at hj2 ⊢
        split
        · rfl
        · rename_i hki
          split at hj2
          · rename_i e; subst e; exact hdep k hk hb
          · exact hcl j hj hj2 k hk hb
      · intro j o' hj ho' hj2 e he
        rw [hnew] at hj2 ⊢
        split
        · rfl
        · split at hj2
          · rename_i h e'; subst e'; rw [ho] at ho'; cases ho'; exact hdir e he
          · exact hed j o' hj ho' hj2 e he
      · have e : (fun j => (listed.setIfInBounds i true).getD j true) = (fun j => if j = i then true else listed.getD j true) := by funext j; exact hnew j
        rw [e]; exact hI'
theorem Mem.drewn {Wr : Nat → Prop} {w0 w : World} {ρ : Env} {Φ : Fz} {G : Nat → Option ABlk} (h : Mem Wr w0 ρ Φ G w) (d : Nat) : Mem Wr w0 ρ Φ G { w with drawn := d } :=
  ⟨fun b k hb => let ⟨x, o, h1, h2, h3⟩ := h.at_ b k hb; ⟨x, o, h1, h2, BlkAt.mono (w := w) (w' := { w with drawn := d }) ρ.le_refl Φ.le_refl (fun _ _ => rfl) h3⟩, h.inj, h.free, h.own, h.frz, ⟨h.keep.os, h.keep.tape, h.keep.output, h.keep.size, h.keep.block⟩⟩
theorem W_draw {c : Code} {Q : Exit → St → Prop} {s : St} (h : c.tag = 2) (hm : C.P.follows .mixedOrders = true) (hck : chk kl c.ops.toList (masks c.ops.toList) = true)
    (k : Dr (al := al) C kl c.ops.toList (masks c.ops.toList) s.H (fun T H nx => Q .normal ⟨T, H, nx, s.df⟩) 0 s.T [] s.nx) : WpA C c Q s := by
  rw [tag_draw h]
  intro ρ Φ a w hc
  refine wpIn_region_any hm ?_
  obtain ⟨V, U, N, _, e2, e3, e4⟩ := k.facts (T0 := s.T) (fun _ => default) (fun _ => []) (fun _ => s.nx) rfl rfl rfl (Nat.zero_le _)
  have hN0 : N 0 = s.nx := e2 0 (Nat.le_refl _)
  have hs : Setup al C kl c.ops.toList (masks c.ops.toList) s.H s.T V U N := ⟨chk_of hck, fun k hk => e3 k (Nat.zero_le _) hk, fun b hb => by
    rw [hN0]
    cases e : gt s.H b with
    | none => exact absurd e hb
    | some kk => obtain ⟨x, o, h1, _⟩ := hc.mem.at_ b kk e; exact hc.dom b (by rw [h1]; simp)⟩
  have hrep : ∀ j, j < c.ops.toList.length → (Array.replicate c.ops.size false).getD j true = false := fun j hj => by
    simp [Array.getD_eq_getD_getElem?] at hj ⊢; simp [hj]
  have h0T : ∀ n, n ≤ c.ops.toList.length → TS c.ops.toList s.T V (fun j => (Array.replicate c.ops.size false).getD j true) n = s.T := fun n hn => TS_ext (k := 0) n (Nat.zero_le _) fun m _ hm => hrep m (by omega)
  have h0H : ∀ n, n ≤ c.ops.toList.length → HS s.H U (fun j => (Array.replicate c.ops.size false).getD j true) n = s.H := fun n hn => HS_ext (k := 0) n (Nat.zero_le _) fun m _ hm => hrep m (by omega)
  have hbound : ∀ (S : Nat → Bool) n, cnt S n ≤ n := by
    intro S n
    induction n with
    | zero => exact Nat.le_refl _
    | succ n ih => simp only [cnt]; split <;> omega
  refine hs.any (df := s.df) rfl (fun ρ' Φ' a' w' hc' => ⟨_, ρ', Φ', e4, hc'⟩) c.ops.size _ ρ Φ a _ (by simp) (by simpa using hbound _ c.ops.size) (fun j hj h1 => by rw [hrep j hj] at h1; cases h1) (fun j o hj _ h1 => by rw [hrep j hj] at h1; cases h1)
    ⟨fun b hb => .inl (by rw [hN0]; exact hc.dom b hb), by rw [h0T _ (Nat.le_refl _)]; exact TmpsAt.mono (w := w) (w' := { w with drawn := w.drawn + 1 }) ρ.le_refl Φ.le_refl (fun _ _ => rfl) hc.tm, by rw [h0H _ (Nat.le_refl _)]; exact hc.mem.drewn _, hc.df, hc.fz, hc.base, by rw [hN0]; exact hc.kn, hc.dk⟩
end
end Go.AE
end

section
namespace Go.AE
open Go.RowKit
theorem w64 {n : Int} (h1 : -9223372036854775808 ≤ n) (h2 : n ≤ 9223372036854775807) : IntKind.i64.wrap n = n := by
  exact Go.IntWalk.i64_in n ⟨h1, h2⟩
section ops
variable {C : Ctx} {T : AT} {H : AH} {nx : Nat} {d : Option Tmp} {ty : TypeId} {pos : String} {after : Array Edge} {g : Option (Nat × Bool)}
theorem U_max {x y : Operand} {k : IntKind} {a b m : Int} {ts : Array TypeId} (hx : ev T x = some (.int k a)) (hy : ev T y = some (.int k b)) (hm : max a b = m) : OpU C ⟨d, .call ⟨.builtin .max, #[x, y], ts⟩, ty, pos, after, g⟩ T H nx (.int k m) [] nx :=
  OpU.of_value (by intro c; simp) fun ρ Φ ac w h2 _ => by
    refine ⟨.int k m, ?_, mk_int⟩
    have : (if b > a then b else a) = m := by rw [← hm]; split <;> omega
    simp [execOp, resolve, invoke, builtin, Builtin.max_, con_int (ev_con h2 hx), con_int (ev_con h2 hy), Builtin.max2, this]
def srcS (z : Nat) (H : AH) : AV → Option (List AV × Nat)
  | .nils => some ([], 0)
  | .slice b o n _ => match gt H b with
    | some (.cells cs _) => if o + n * z ≤ cs.length then some ((cs.drop o).take (n * z), n) else none
    | _ => none
  | .sliceo b o n _ => match gt H b with
    | some (.cells cs _) => if o + n * z ≤ cs.length then some ((cs.drop o).take (n * z), n) else none
    | _ => none
  | .ros cs n _ => if n * z ≤ cs.length then some (cs.take (n * z), n) else none
  | _ => none
theorem srcS_con {Wr : Nat → Prop} {w0 w : World} {P : Program} {ρ : Env} {Φ : Fz} {H : AH} (hm : Mem Wr w0 ρ Φ (gt H) w) {z n : Nat} {v : AV} {cs : List AV} {x : Value} (hs : srcS z H v = some (cs, n)) (h : Con ρ Φ w v x) :
    ∃ ad k xs, x = .slice ad n k ∧ (∀ dr, (Builtin.firstCells z n x).run P { w with drawn := dr } = .ok xs.toArray { w with drawn := dr }) ∧ ConL ρ Φ w cs xs := by
  have key : ∀ (r base o : Nat) (cs0 : List AV) (xs0 : List Value) (k : Nat), ConL ρ Φ w cs0 xs0 → At w r base xs0 → o + n * z ≤ cs0.length → x = .slice (some ⟨r, base + o, none⟩) n k → cs = (cs0.drop o).take (n * z) →
      ∃ ad k xs, x = .slice ad n k ∧ (∀ dr, (Builtin.firstCells z n x).run P { w with drawn := dr } = .ok xs.toArray { w with drawn := dr }) ∧ ConL ρ Φ w cs xs := by
    intro r base o cs0 xs0 k h1 h2 h3 h4 h5
    have hlen := conL_len h1
    refine ⟨_, k, (xs0.drop o).take (n * z), h4, fun dr => ?_, h5 ▸ conL_take _ (conL_drop o h1)⟩
    have h2' : At { w with drawn := dr } r base xs0 := fun i v hi => h2 i v hi
    have := run_loadCells (P := P) h2' o (n * z) 0 #[] (by omega)
    rw [h4]
    simp only [Builtin.firstCells, loadCells, this]; simp
  unfold srcS at hs
  split at hs
  · cases hs; simp only [Con] at h; subst h
    exact ⟨none, 0, [], rfl, fun _ => rfl, conL_nil⟩
  · split at hs
    · rename_i b o m c cs0 t hg
      split at hs
      · rename_i hl
        cases hs
        simp only [Con] at h
        obtain ⟨y, h1, h2⟩ := h
        obtain ⟨y', ob, e1, e2, pre, xs, rest, e3, e4, e5, rfl⟩ := hm.at_ _ _ hg
        rw [h1] at e1; cases e1
        exact key y.1 y.2.1 _ cs0 xs _ e3 (e4 ▸ at_of_cells e2) hl h2 rfl
      · cases hs
    · cases hs
  · split at hs
    · rename_i b o m zz cs0 t hg
      split at hs
      · rename_i hl
        cases hs
        simp only [Con] at h
        obtain ⟨y, k, h1, _, _, h2⟩ := h
        obtain ⟨y', ob, e1, e2, pre, xs, rest, e3, e4, e5, rfl⟩ := hm.at_ _ _ hg
        rw [h1] at e1; cases e1
        exact key y.1 y.2.1 _ cs0 xs k e3 (e4 ▸ at_of_cells e2) hl h2 rfl
      · cases hs
    · cases hs
  · split at hs
    · rename_i cs0 m c hl
      cases hs
      simp only [Con] at h
      rcases h with ⟨rfl, ⟨p, rfl⟩, _⟩ | ⟨r, base, xs, k, _, h2, _, _, h5, h6, _⟩
      · exact ⟨p, 0, [], rfl, fun _ => by cases p <;> simp [Builtin.firstCells, loadCells, loadCellsFrom], by simp only [Nat.zero_mul, List.take_zero]; exact conL_nil⟩
      · exact key r base 0 cs0 xs k h5 h6 (by omega) h2 (by simp)
    · cases hs
  · cases hs
def capOf : AV → Option Nat
  | .nils => some 0
  | .slice _ _ _ c => some c
  | .ros _ _ (some c) => some c
  | _ => none
theorem capOf_con {ρ : Env} {Φ : Fz} {w : World} {v : AV} {c : Nat} {x : Value} (hc : capOf v = some c) (h : Con ρ Φ w v x) : ∃ a n, x = .slice a n c := by
  unfold capOf at hc
  split at hc
  · cases hc; simp only [Con] at h; exact ⟨_, _, h⟩
  · cases hc; simp only [Con] at h; obtain ⟨y, _, h⟩ := h; exact ⟨_, _, h⟩
  · cases hc; simp only [Con] at h; rcases h with ⟨_, ⟨_, h⟩, h4⟩ | ⟨r, base, xs, k, _, h2, _, h4, _⟩; rw [← h4 _ rfl]; exact ⟨_, _, h⟩; rw [h4 _ rfl] at h2; exact ⟨_, _, h2⟩
  · cases hc
theorem Post.undraw {Wr : Nat → Prop} {w0 w w' : World} {ρ ρ' : Env} {Φ Φ' : Fz} {nx nx' : Nat} {l : List Nat} {G' : Nat → Option ABlk} {dr : Nat} (h : Post Wr w0 ρ Φ { w with drawn := dr } nx nx' l G' ρ' Φ' w') : Post Wr w0 ρ Φ w nx nx' l G' ρ' Φ' w' :=
  ⟨h.le, h.dom, h.fle, h.fnew, ⟨h.keep.os, h.keep.tape, h.keep.output, h.keep.size, h.keep.block⟩, h.stab, h.bnew, h.mem, h.dk⟩
theorem growBy_le (n : Nat) : ∀ r c, Builtin.growBy n r c ≤ max c (n + (n + 768) / 4)
  | 0, c => by simp [Builtin.growBy]; omega
  | r + 1, c => by
    unfold Builtin.growBy
    split
    · omega
    · have := growBy_le n r (c + (c + 768) / 4); omega
theorem nextcap_le {n c : Nat} (h : c < n) : Builtin.nextslicecap n c ≤ 2 * n + 1000 := by
  unfold Builtin.nextslicecap
  split
  · omega
  · split
    · omega
    · have := growBy_le n 4 c; omega
theorem run_grow {P : Program} {w : World} {sT xT e z e' z' n m c : Nat} {s x : Value} {olds news : List Value} {zv : Value} {rt : TypeId} [hT : TySl P sT e z] [hX : TySl P xT e' z'] (hz : ∀ w, (zeroValue e).run P w = .ok zv w) (hzl : zv.cells.size = z) {i : TypeInfo} (hi : ∀ w, (typeInfo e).run P w = .ok i w) (hb : i.bytes ≤ 100000)
    {ad ad' : Option Addr} {k' : Nat} (hs : s = .slice ad n c) (hx : x = .slice ad' m k') (ho : ∀ dr, (Builtin.firstCells z n s).run P { w with drawn := dr } = .ok olds.toArray { w with drawn := dr }) (hn : ∀ dr, (Builtin.firstCells z m x).run P { w with drawn := dr } = .ok news.toArray { w with drawn := dr }) (hgrow : c < n + m) (hlim : n + m ≤ 1000000) (hol : olds.length = n * z) (hnl : news.length = m * z) :
    ∃ cap dr rest, n + m ≤ cap ∧ (olds ++ news ++ rest).length = cap * z ∧ (Builtin.append_ #[sT, xT] rt #[s, x]).run P w = .ok (.slice (some ⟨w.heap.size, 0, none⟩) (n + m) cap) ({ w with drawn := dr }.alloc (.cells (olds ++ news ++ rest).toArray e)) := by
  have hnb : Builtin.nextslicecap (n + m) c * i.bytes ≤ 2 ^ 48 := by
    have := nextcap_le hgrow
    calc _ ≤ (2 * (n + m) + 1000) * 100000 := Nat.mul_le_mul this hb
      _ ≤ _ := by omega
  refine ⟨(n + m) + w.tape w.drawn (.appendCap (n + m) c e) % (2 ^ 63 - (n + m)), w.drawn + 1, (Builtin.zeroCells zv.cells (w.tape w.drawn (.appendCap (n + m) c e) % (2 ^ 63 - (n + m)))).toList, by omega, ?_, ?_⟩
  · simp only [Builtin.zeroCells, List.length_append, hol, hnl, Array.length_toList, Array.size_map, Array.size_range, hzl, Nat.add_mul]
  · subst hs; subst hx
    have h1 := ho (w.drawn + 1)
    have h2 := hn (w.drawn + 1)
    unfold Builtin.append_
    simp only [List.getElem?_toArray, List.getElem?_cons_zero, List.getElem?_cons_succ, Sem.run_bind, run_underlying hT.un, run_underlying hX.un, Result.andThen_ok, Sem.run_pure, hT.size, Bool.false_eq_true, if_false, Builtin.lenOf, show ¬ n + m ≤ c by omega]
    have hmx : ¬ (((n + m : Nat) : Int) > IntKind.i64.max) := by
      simp [IntKind.max, IntKind.bits, IntKind.signed]; omega
    have hnb' : ¬ Builtin.nextslicecap (n + m) c * i.bytes > 2 ^ 48 := by omega
    simp only [hmx, false_and, if_false, hi, Result.andThen_ok, hnb', run_choose, Question.forced, Question.cut, Bool.false_eq_true, run_askRoom, h1, h2, Bool.not_false, if_true, hz, newRow, Sem.run_bind, run_newObj_alloc, Sem.run_pure]
    rw [Nat.add_sub_cancel_left]
    congr 2
    congr 1
    apply Array.ext'; simp
theorem srcS_len {z : Nat} {H : AH} {v : AV} {cs : List AV} {n : Nat} (h : srcS z H v = some (cs, n)) : cs.length = n * z := by
  unfold srcS at h
  split at h
  · cases h; simp
  · split at h
    · split at h
      · cases h; simp; omega
      · cases h
    · cases h
  · split at h
    · split at h
      · cases h; simp; omega
      · cases h
    · cases h
  · split at h
    · cases h; simp; omega
    · cases h
  · cases h
class TyElem (P : Program) (e : TypeId) (z : outParam Nat) : Prop where
  zero : ∃ v, (∀ w, (zeroValue e).run P w = .ok v w) ∧ v.cells.size = z
  bytes : ∃ i, (∀ w, (typeInfo e).run P w = .ok i w) ∧ i.bytes ≤ 100000
theorem U_appendGrow {sT xT e e' z n m c : Nat} {x y : Operand} {s v : AV} {olds news : List AV} [hT : TySl C.P sT e z] [hX : TySl C.P xT e' z] [hE : TyElem C.P e z] (hx : ev T x = some s) (hy : ev T y = some v) (h1 : srcS z H s = some (olds, n)) (h2 : srcS z H v = some (news, m)) (hc : capOf s = some c) (hgrow : c < n + m) (hlim : n + m ≤ 1000000) :
    OpU C ⟨d, .call ⟨.builtin .append, #[x, y], #[sT, xT]⟩, ty, pos, after, g⟩ T H nx (.sliceo nx 0 (n + m) z) [(nx, some (.cells (olds ++ news) e))] (nx + 1) :=
  OpU.of_run (by intro c; simp) fun ρ Φ a w hf h3 h4 => by
    obtain ⟨ad, k, xs, e1, e2, e3⟩ := srcS_con (P := C.P) h4 h1 (ev_con h3 hx)
    obtain ⟨ad', k', ys, e4, e5, e6⟩ := srcS_con (P := C.P) h4 h2 (ev_con h3 hy)
    obtain ⟨ad'', n', e7⟩ := capOf_con hc (ev_con h3 hx)
    have hkc : k = c := by rw [e1] at e7; cases e7; rfl
    subst hkc
    obtain ⟨zv, hz1, hz2⟩ := hE.zero
    obtain ⟨i, hi1, hi2⟩ := hE.bytes
    have hl1 := conL_len e3; have hl2 := conL_len e6
    obtain ⟨cap, dr, rest, r1, r2, r3⟩ := run_grow (P := C.P) (w := w) (sT := sT) (xT := xT) (rt := ty) hz1 hz2 hi1 hi2 e1 e4 e2 e5 hgrow hlim (by rw [hl1, srcS_len h1]) (by rw [hl2, srcS_len h2])
    have hcc : ConL ρ Φ w (olds ++ news) (xs ++ ys) := conL_append e3 e6
    have hp := Post.new (h4.drewn dr) (nx := nx) (hf nx (Nat.le_refl _) (Nat.lt_succ_self _)) (k := .cells (olds ++ news) e) (o := .cells (xs ++ ys ++ rest).toArray e) 0 (cap * z)
      ⟨[], xs ++ ys, rest, ConL.mono (w := w) (w' := { w with drawn := dr }) ρ.le_refl Φ.le_refl (fun _ _ => rfl) _ hcc, rfl, by rw [← r2]; simp [Nat.add_assoc], by simp⟩
    refine ⟨ρ.upd nx (w.heap.size, 0, cap * z), Φ, .slice (some ⟨w.heap.size, 0, none⟩) (n + m) cap, { w with drawn := dr }.alloc (.cells (xs ++ ys ++ rest).toArray e), .inl ?_, ?_, ?_⟩
    · show (execOp a.eval _).run C.P w = .ok (.value (.slice (some ⟨w.heap.size, 0, none⟩) (n + m) cap)) ({ w with drawn := dr }.alloc (.cells (xs ++ ys ++ rest).toArray e))
      simp only [execOp, resolve, Sem.run_bind, Sem.run_pure, Result.andThen_ok, invoke, builtin]
      simp [r3]
    · rw [List.cons_append, List.nil_append, gt_upG]
      exact hp.undraw.more (by simp)
    · simp only [Con]; exact ⟨_, cap, Env.upd_same _ _ _, r1, by simp, rfl⟩
theorem setC_app {α : Type} : ∀ (c a b : List α), c.length ≤ b.length → setC (a ++ b) a.length c = a ++ c ++ b.drop c.length
  | [], a, b, _ => by simp [setC]
  | v :: c, a, [], h => by simp at h
  | v :: c, a, u :: b, h => by
    have h2 : (a ++ u :: b).set a.length v = (a ++ [v]) ++ b := by simp
    have := setC_app c (a ++ [v]) b (by simpa using h)
    rw [setC, h2]
    simpa using this
theorem Post.less {Wr : Nat → Prop} {w0 w w' : World} {ρ ρ' : Env} {Φ Φ' : Fz} {nx nx' : Nat} {l : List Nat} {G G' : Nat → Option ABlk} (h : Post Wr w0 ρ Φ w nx nx' l G ρ' Φ' w') (hs : ∀ b k, G' b = some k → G b = some k) : Post Wr w0 ρ Φ w nx nx' l G' ρ' Φ' w' :=
  ⟨h.le, h.dom, h.fle, h.fnew, h.keep, h.stab, fun b x h0 => h.bnew b x (fun e => h0 (by cases e2 : G' b with | none => rfl | some k => rw [hs b k e2] at e; cases e)), h.mem.less hs, h.dk⟩
theorem run_room {P : Program} {w w' : World} {sT xT e z e' z' n m k r q : Nat} {s x : Value} {news : List Value} {rt : TypeId} [hT : TySl P sT e z] [hX : TySl P xT e' z'] {ad' : Option Addr} {k' : Nat} (hs : s = .slice (some ⟨r, q, none⟩) n k) (hx : x = .slice ad' m k')
    (hn : (Builtin.firstCells z m x).run P w = .ok news.toArray w) (hroom : n + m ≤ k) (hst : (storeCells ⟨r, q + n * z, none⟩ news).run P w = .ok () w') :
    (Builtin.append_ #[sT, xT] rt #[s, x]).run P w = .ok (.slice (some ⟨r, q, none⟩) (n + m) k) w' := by
  subst hs; subst hx
  unfold Builtin.append_
  simp only [List.getElem?_toArray, List.getElem?_cons_zero, List.getElem?_cons_succ, Sem.run_bind, run_underlying hT.un, run_underlying hX.un, Result.andThen_ok, Sem.run_pure, hT.size, Bool.false_eq_true, if_false, Builtin.lenOf, hroom, if_true, Bool.not_false, hn, add_at, hst]
theorem U_appendOpen {sT xT e e' z n m b o : Nat} {x y : Operand} {v : AV} {cs cs' news : List AV} [hT : TySl C.P sT e z] [hX : TySl C.P xT e' z] [hE : TyElem C.P e z] (hx : ev T x = some (.sliceo b o n z)) (hy : ev T y = some v) (hg : gt H b = some (.cells cs e)) (hl : cs.length = o + n * z) (h2 : srcS z H v = some (news, m))
    (h1 : news.all AV.one = true) (hlim : n + m ≤ 1000000) (hc : cs.drop o ++ news = cs') :
    OpU C ⟨d, .call ⟨.builtin .append, #[x, y], #[sT, xT]⟩, ty, pos, after, g⟩ T H nx (.sliceo nx 0 (n + m) z) [(nx, some (.cells cs' e)), (b, none)] (nx + 1) :=
  OpU.of_run (by intro c; simp) fun ρ Φ a w hf h3 h4 => by
    subst hc
    have hs : srcS z H (.sliceo b o n z) = some (cs.drop o, n) := by
      simp only [srcS, hg, hl, Nat.le_refl, if_true]
      rw [List.take_of_length_le (by simp [hl])]
    obtain ⟨ad, k, xs0, e1, e2, e3⟩ := srcS_con (P := C.P) h4 hs (ev_con h3 hx)
    obtain ⟨ad', k', ys, e4, e5, e6⟩ := srcS_con (P := C.P) h4 h2 (ev_con h3 hy)
    have hl2 := conL_len e6; have hn2 := srcS_len h2
    have hcx := ev_con h3 hx
    simp only [Con] at hcx
    obtain ⟨yy, k1, f1, f2, f3, f4⟩ := hcx
    rw [e1] at f4; cases f4
    obtain ⟨yy', ob, f5, f6, pre, xs, rest, f7, f8, f9, rfl⟩ := h4.at_ _ _ hg
    rw [f1] at f5; cases f5
    have hlx := conL_len f7
    by_cases hroom : n + m ≤ k
    · -- in place
      have hmr : m * z ≤ rest.length := by
        have : (n + m) * z ≤ k * z := Nat.mul_le_mul_right z hroom
        rw [Nat.add_mul] at this; omega
      have f6' : w.heap[yy.1]? = some (.cells (pre ++ (xs ++ rest) ++ []).toArray e (0, 0)) := by simpa using f6
      obtain ⟨w', hw1, hw2⟩ := run_storeCells (P := C.P) (pre := pre) (rest := []) (t := e) (r := yy.1) (o + n * z) ys (xs ++ rest) 0 w f6' (by simp; omega) (conL_one e6 (by simpa using h1))
      have hset : setC (xs ++ rest) (o + n * z + 0) ys = xs ++ ys ++ rest.drop ys.length := by
        have := setC_app ys xs rest (by omega)
        rw [← this]; congr 1; omega
      rw [hset] at hw2
      have hp := Post.rename h4 (nx := nx) (hf nx (Nat.le_refl _) (Nat.lt_succ_self _)) (k' := .cells (cs.drop o ++ news) e) (y := (yy.1, yy.2.1 + o, (xs.drop o ++ ys).length + (rest.drop ys.length).length)) hg f1 rfl hw2
        ⟨pre ++ xs.take o, xs.drop o ++ ys, rest.drop ys.length, conL_append (conL_drop o f7) e6, by simp [f8]; omega, rfl, by
          congr 1; rw [List.append_nil]; have := List.take_append_drop o xs; simp only [List.append_assoc]; rw [← List.append_assoc (xs.take o) (xs.drop o), this]⟩
      refine ⟨ρ.upd nx (yy.1, yy.2.1 + o, (xs.drop o ++ ys).length + (rest.drop ys.length).length), Φ, .slice (some ⟨yy.1, yy.2.1 + o, none⟩) (n + m) k, w', .inl ?_, ?_, ?_⟩
      · have hst : (storeCells (⟨yy.1, yy.2.1 + o + n * z, none⟩ : Addr) ys).run C.P w = .ok () w' := by
          rw [← f8]; simpa [Nat.add_assoc] using hw1
        have r3 := run_room (P := C.P) (w := w) (sT := sT) (xT := xT) (rt := ty) e1 e4 (e5 w.drawn) hroom hst
        simp only [execOp, resolve, Sem.run_bind, Sem.run_pure, Result.andThen_ok, invoke, builtin]
        simp [r3]
      · rw [List.cons_append, List.cons_append, List.nil_append, gt_upG, gt_upG]
        exact hp.more (by simp)
      · simp only [Con]
        refine ⟨_, k, Env.upd_same _ _ _, hroom, ?_, rfl⟩
        simp only [List.length_append, List.length_drop]
        omega
    · obtain ⟨zv, hz1, hz2⟩ := hE.zero
      obtain ⟨i, hi1, hi2⟩ := hE.bytes
      have hl1 := conL_len e3
      obtain ⟨cap, dr, rest', r1, r2, r3⟩ := run_grow (P := C.P) (w := w) (sT := sT) (xT := xT) (rt := ty) hz1 hz2 hi1 hi2 e1 e4 e2 e5 (by omega) hlim (by rw [hl1, srcS_len hs]) (by rw [hl2, srcS_len h2])
      have hcc : ConL ρ Φ w (cs.drop o ++ news) (xs0 ++ ys) := conL_append e3 e6
      have hp := Post.new (h4.drewn dr) (nx := nx) (hf nx (Nat.le_refl _) (Nat.lt_succ_self _)) (k := .cells (cs.drop o ++ news) e) (o := .cells (xs0 ++ ys ++ rest').toArray e) 0 (cap * z)
        ⟨[], xs0 ++ ys, rest', ConL.mono (w := w) (w' := { w with drawn := dr }) ρ.le_refl Φ.le_refl (fun _ _ => rfl) _ hcc, rfl, by rw [← r2]; simp [Nat.add_assoc], by simp⟩
      refine ⟨ρ.upd nx (w.heap.size, 0, cap * z), Φ, .slice (some ⟨w.heap.size, 0, none⟩) (n + m) cap, { w with drawn := dr }.alloc (.cells (xs0 ++ ys ++ rest').toArray e), .inl ?_, ?_, ?_⟩
      · show (execOp a.eval _).run C.P w = .ok (.value (.slice (some ⟨w.heap.size, 0, none⟩) (n + m) cap)) ({ w with drawn := dr }.alloc (.cells (xs0 ++ ys ++ rest').toArray e))
        simp only [execOp, resolve, Sem.run_bind, Sem.run_pure, Result.andThen_ok, invoke, builtin]
        simp [r3]
      · rw [List.cons_append, List.cons_append, List.nil_append, gt_upG, gt_upG]
        refine (Post.less hp.undraw ?_).more (by simp)
        intro b' k' hb'
        unfold upG at hb' ⊢
        split at hb'
        · rename_i h; rw [if_pos h]; exact hb'
        · rename_i h
          rw [if_neg h]
          split at hb'
          · cases hb'
          · exact hb'
      · simp only [Con]; exact ⟨_, cap, Env.upd_same _ _ _, r1, by simp, rfl⟩
end ops
section steps
variable {C : Ctx} {T : AT} {H : AH} {nx : Nat} {df : List Nat} {ops : Array Oper} {i : Nat} {K : St → Prop} {o : Oper} {v : AV} {ups : AH} {nx' t : Nat} {c : Bool}
theorem all_some {o : Oper} {t n : Nat} (hd : o.dst = some t) (ht : t.blt n = true) : o.dst.all (· < n) = true := by rw [hd]; simpa using ht
theorem all_none {o : Oper} {n : Nat} (hd : o.dst = none) : o.dst.all (· < n) = true := by rw [hd]; rfl
theorem Rv (ho : nth ops.toList i = some o) (hg : wantedA ops.toList T o = some c) (hc : c = true) (hU : OpU C o T H nx v [] nx) (hd : o.dst = some t) (ht : t.blt C.nt = true) (k : Reg C ops (i + 1) K ⟨(t, v) :: T, H, nx, df⟩) : Reg C ops i K ⟨T, H, nx, df⟩ :=
  Reg_op (s := ⟨T, H, nx, df⟩) ho hg hc hU (all_some hd ht) (Nat.le_refl _) (by rw [hd]; exact k)
theorem Rn (ho : nth ops.toList i = some o) (hg : wantedA ops.toList T o = some c) (hc : c = true) (hU : OpU C o T H nx v ups nx) (hd : o.dst = none) (k : Reg C ops (i + 1) K ⟨T, ups ++ H, nx, df⟩) : Reg C ops i K ⟨T, H, nx, df⟩ :=
  Reg_op (s := ⟨T, H, nx, df⟩) ho hg hc hU (all_none hd) (Nat.le_refl _) (by rw [hd]; exact k)
theorem Ra (ho : nth ops.toList i = some o) (hg : wantedA ops.toList T o = some c) (hc : c = true) (hU : OpU C o T H nx v ups nx') (hd : o.dst = some t) (ht : t.blt C.nt = true) (hn : nx.ble nx' = true) (k : Reg C ops (i + 1) K ⟨(t, v) :: T, ups ++ H, nx', df⟩) : Reg C ops i K ⟨T, H, nx, df⟩ :=
  Reg_op (s := ⟨T, H, nx, df⟩) ho hg hc hU (all_some hd ht) (Nat.le_of_ble_eq_true hn) (by rw [hd]; exact k)
theorem Rs (ho : nth ops.toList i = some o) (hg : wantedA ops.toList T o = some c) (hc : c = false) (hd : o.dst = some t) (ht : t.blt C.nt = true) (k : Reg C ops (i + 1) K ⟨(t, .tup []) :: T, H, nx, df⟩) : Reg C ops i K ⟨T, H, nx, df⟩ :=
  Reg_skip (s := ⟨T, H, nx, df⟩) ho hg hc (all_some hd ht) (by rw [hd]; exact k)
theorem Re (hi : nth ops.toList i = none) (h : K ⟨T, H, nx, df⟩) : Reg C ops i K ⟨T, H, nx, df⟩ := Reg_end hi h
end steps
section dsteps
variable {al : Nat × ABlk} {C : Ctx} {kl : Oper → Nat} {ops : List Oper} {ms : List Nat} {H0 : AH} {K : AT → AH → Nat → Prop} {i : Nat} {T : AT} {D : List (Nat × AH)} {nx nx' t : Nat} {o : Oper} {v : AV} {ups : AH} {c : Bool}
theorem Dv (ho : nth ops i = some o) (hg : wantedA ops T o = some c) (hc : nc (kl o) c = true) (hU : OpU C o (only (looks ops o) T) (hrOf (kl o) (msk ms i) H0 D) nx v [] nx) (hd : o.dst = some t) (ht : t.blt C.nt = true)
    (k : Dr (al := al) C kl ops ms H0 K (i + 1) ((t, v) :: T) ((i, []) :: D) nx) : Dr (al := al) C kl ops ms H0 K i T D nx := .op ho hg hc hU (all_some hd ht) (Nat.le_refl _) rfl (by rw [hd]; exact k)
theorem Dn_ (ho : nth ops i = some o) (hg : wantedA ops T o = some c) (hc : nc (kl o) c = true) (hU : OpU C o (only (looks ops o) T) (hrOf (kl o) (msk ms i) H0 D) nx v ups nx) (hd : o.dst = none) (hk : upsOk (kl o) (hrOf (kl o) (msk ms i) H0 D) nx nx ups = true)
    (k : Dr (al := al) C kl ops ms H0 K (i + 1) T ((i, ups) :: D) nx) : Dr (al := al) C kl ops ms H0 K i T D nx := .op ho hg hc hU (all_none hd) (Nat.le_refl _) hk (by rw [hd]; exact k)
theorem Da (ho : nth ops i = some o) (hg : wantedA ops T o = some c) (hc : nc (kl o) c = true) (hU : OpU C o (only (looks ops o) T) (hrOf (kl o) (msk ms i) H0 D) nx v ups nx') (hd : o.dst = some t) (ht : t.blt C.nt = true) (hn : nx.ble nx' = true) (hk : upsOk (kl o) (hrOf (kl o) (msk ms i) H0 D) nx nx' ups = true)
    (k : Dr (al := al) C kl ops ms H0 K (i + 1) ((t, v) :: T) ((i, ups) :: D) nx') : Dr (al := al) C kl ops ms H0 K i T D nx := .op ho hg hc hU (all_some hd ht) (Nat.le_of_ble_eq_true hn) hk (by rw [hd]; exact k)
theorem Ds (ho : nth ops i = some o) (hg : wantedA ops T o = some c) (hc : c = false) (hd : o.dst = some t) (ht : t.blt C.nt = true) (k : Dr (al := al) C kl ops ms H0 K (i + 1) ((t, .tup []) :: T) ((i, []) :: D) nx) : Dr (al := al) C kl ops ms H0 K i T D nx :=
  .skip ho hg hc (all_some hd ht) (by rw [hd]; exact k)
end dsteps
section codes
variable {C : Ctx} {c : Code} {Q : Exit → St → Prop} {T : AT} {H : AH} {nx : Nat} {df : List Nat}
theorem Wcond {b : Bool} (h : c.tag = 4) (hb : ev T c.c = some (.bool b)) (ht : b = true → WpA C c.l Q ⟨T, H, nx, df⟩) (hf : b = false → WpA C c.r Q ⟨T, H, nx, df⟩) : WpA C c Q ⟨T, H, nx, df⟩ := W_cond h hb ht hf
theorem WcondP {p : Prop} [Decidable p] (h : c.tag = 4) (hb : ev T c.c = some (.bool (decide p))) (ht : p → WpA C c.l Q ⟨T, H, nx, df⟩) (hf : ¬ p → WpA C c.r Q ⟨T, H, nx, df⟩) : WpA C c Q ⟨T, H, nx, df⟩ := W_condP h hb ht hf
def light (l : List Nat) (o : Oper) : Nat := match o.dst with
  | some d => if l.contains d then 0 else cls o.op
  | none => cls o.op
def al0 : Nat × ABlk := (0, .map [] 0)
theorem Wdraw (h : c.tag = 2) (hm : C.P.follows .mixedOrders = true) (hck : chk (fun o => cls o.op) c.ops.toList (masks c.ops.toList) = true)
    (k : Dr (al := al0) C (fun o => cls o.op) c.ops.toList (masks c.ops.toList) H (fun T H nx => Q .normal ⟨T, H, nx, df⟩) 0 T [] nx) : WpA C c Q ⟨T, H, nx, df⟩ := W_draw h hm hck k
theorem WdrawL (l : List Nat) (h : c.tag = 2) (hm : C.P.follows .mixedOrders = true) (hck : chk (light l) c.ops.toList (masks c.ops.toList) = true)
    (k : Dr (al := al0) C (light l) c.ops.toList (masks c.ops.toList) H (fun T H nx => Q .normal ⟨T, H, nx, df⟩) 0 T [] nx) : WpA C c Q ⟨T, H, nx, df⟩ := W_draw h hm hck k
end codes
section ops
variable {C : Ctx} {T : AT} {H : AH} {nx : Nat} {d : Option Tmp} {ty : TypeId} {pos : String} {after : Array Edge} {g : Option (Nat × Bool)}
def bnd (T : AT) (def_ : Int) : Option Operand → Option Int
  | none => some def_
  | some x => match ev T x with
    | some (.int _ n) => some n
    | _ => none
theorem bnd_con {ρ : Env} {Φ : Fz} {w : World} {T : AT} {nt : Nat} {a : Act} (h : TmpsAt ρ Φ w T nt a.tmps) {x : Operand} {df n : Int} (hb : bnd T df (some x) = some n) : ∃ k, a.eval x = .int k n := by
  simp only [bnd] at hb
  split at hb
  · rename_i k m he; cases hb; exact ⟨k, con_int (ev_con h he)⟩
  · cases hb
theorem run_sliceBound {P : Program} {w : World} {k : IntKind} {i : Int} {j y : Nat} (hi : i = j) (h : j ≤ y) (c : BoundsCode) : (Instr.sliceBound (.int k i) y c).run P w = .ok j w := by
  subst hi; simp [Instr.sliceBound, asIntOf, h]
theorem run_sliceAt {P : Program} {w : World} {t e z : Nat} [hT : TySl P t e z] {ad : Option Addr} {n k l h m : Nat} {lo hi mx : Option Value}
    (hlo : match lo with | none => l = 0 | some v => ∃ kk, v = .int kk (l : Int)) (hhi : match hi with | none => h = n | some v => ∃ kk, v = .int kk (h : Int)) (hmx : match mx with | none => m = k | some v => hi.isSome ∧ ∃ kk, v = .int kk (m : Int)) (h1 : l ≤ h) (h2 : h ≤ m) (h3 : m ≤ k) :
    (Instr.sliceAt t (.slice ad n k) lo hi mx).run P w = .ok (.slice (if m = l then ad else ad.map (·.add (l * z))) (h - l) (m - l)) w := by
  have hb : ∀ b : Bool, (Instr.sliceBounds b n k lo hi mx).run P w = .ok (l, h, m) w := by
    intro b
    unfold Instr.sliceBounds
    cases mx with
    | none =>
      simp only at hmx; subst hmx
      cases hi with
      | none =>
        simp only at hhi; subst hhi
        cases lo with
        | none => simp only at hlo; subst hlo; simp
        | some v => obtain ⟨kk, rfl⟩ := hlo; simp [run_sliceBound rfl h1]
      | some u =>
        obtain ⟨kk, rfl⟩ := hhi
        cases lo with
        | none => simp only at hlo; subst hlo; simp [run_sliceBound rfl h2]
        | some v => obtain ⟨kk', rfl⟩ := hlo; simp [run_sliceBound rfl h1, run_sliceBound rfl h2]
    | some q =>
      obtain ⟨hs, kq, rfl⟩ := hmx
      cases hi with
      | none => simp at hs
      | some u =>
        obtain ⟨kk, rfl⟩ := hhi
        cases lo with
        | none => simp only at hlo; subst hlo; simp [run_sliceBound rfl h2, run_sliceBound rfl h3]
        | some v => obtain ⟨kk', rfl⟩ := hlo; simp [run_sliceBound rfl h1, run_sliceBound rfl h2, run_sliceBound rfl h3]
  simp only [Instr.sliceAt, Sem.run_bind, run_underlying hT.un, Result.andThen_ok, Instr.slice, hb, hT.size, Sem.run_pure]
def BndIs (T : AT) (x : Option Operand) (df v : Nat) : Prop := match x with
  | none => v = df
  | some y => bnd T 0 (some y) = some (v : Int)
theorem bndIs_con {ρ : Env} {Φ : Fz} {w : World} {T : AT} {nt : Nat} {a : Act} (h : TmpsAt ρ Φ w T nt a.tmps) {x : Option Operand} {df v : Nat} (hb : BndIs T x df v) : match x.map a.eval with | none => v = df | some u => ∃ kk, u = .int kk (v : Int) := by
  cases x with
  | none => exact hb
  | some y => exact bnd_con h hb
theorem U_sliceR3 {t e z n h : Nat} {c : Option Nat} {x hi mx : Operand} {cs : List AV} [hT : TySl C.P t e z] (hx : ev T x = some (.ros cs n c)) (hhi : bnd T 0 (some hi) = some (h : Int)) (hmx : bnd T 0 (some mx) = some (h : Int)) (h2 : h ≤ n) :
    OpU C ⟨d, .slice t x none (some hi) (some mx), ty, pos, after, g⟩ T H nx (.ros cs h (some h)) [] nx :=
  OpU.of_value (by intro c; simp) fun ρ Φ a w h3 _ => by
    have hp := ev_con h3 hx
    simp only [Con] at hp
    rcases hp with ⟨e1, ⟨p, e2⟩, e3⟩ | ⟨r, base, xs, k, e1, e2, e3, e4, e5, e6, e7⟩
    · have hl : h = 0 := by omega
      subst hl; subst e1
      have := run_sliceAt (P := C.P) (w := w) (t := t) (ad := p) (n := 0) (k := 0) (l := 0) (h := 0) (m := 0) (lo := none) rfl (bnd_con h3 hhi) (mx := some (a.eval mx)) (hi := some (a.eval hi)) ⟨rfl, bnd_con h3 hmx⟩ (Nat.zero_le _) (Nat.le_refl _) (Nat.le_refl _)
      refine ⟨.slice p 0 0, by simp only [execOp, e2, Sem.run_bind, Option.map_none, Option.map_some, this, Result.andThen_ok, Sem.run_pure]; simp only [if_true], ?_⟩
      simp only [Con]
      exact .inl ⟨trivial, ⟨_, rfl⟩, fun m hm => by cases hm; rfl⟩
    have := run_sliceAt (P := C.P) (w := w) (t := t) (ad := some ⟨r, base, none⟩) (n := n) (k := k) (l := 0) (h := h) (m := h) (lo := none) rfl (bnd_con h3 hhi) (mx := some (a.eval mx)) (hi := some (a.eval hi)) ⟨rfl, bnd_con h3 hmx⟩ (Nat.zero_le _) (Nat.le_refl _) (by omega)
    refine ⟨.slice (some ⟨r, base, none⟩) h h, ?_, ?_⟩
    · simp only [execOp, e2, Sem.run_bind, Option.map_none, Option.map_some, this, Result.andThen_ok, Sem.run_pure]
      simp [add_at]
    · simp only [Con]
      exact .inr ⟨r, base, xs, h, e1, rfl, Nat.le_refl _, fun m hm => by cases hm; rfl, e5, e6, e7⟩
theorem U_sliceN3 {t e z : Nat} {x hi mx : Operand} [hT : TySl C.P t e z] (hx : ev T x = some .nils) (hhi : bnd T 0 (some hi) = some (0 : Int)) (hmx : bnd T 0 (some mx) = some (0 : Int)) :
    OpU C ⟨d, .slice t x none (some hi) (some mx), ty, pos, after, g⟩ T H nx .nils [] nx :=
  OpU.of_value (by intro c; simp) fun ρ Φ a w h3 _ => by
    have hp := ev_con h3 hx
    simp only [Con] at hp
    have := run_sliceAt (P := C.P) (w := w) (t := t) (ad := none) (n := 0) (k := 0) (l := 0) (h := 0) (m := 0) (lo := none) rfl (bnd_con h3 hhi) (mx := some (a.eval mx)) (hi := some (a.eval hi)) ⟨rfl, bnd_con h3 hmx⟩ (Nat.zero_le _) (Nat.le_refl _) (by omega)
    refine ⟨.slice none 0 0, ?_, ?_⟩
    · simp only [execOp, hp, Sem.run_bind, Option.map_none, Option.map_some, this, Result.andThen_ok, Sem.run_pure]
      simp
    · simp only [Con]
class TyMake (P : Program) (t : TypeId) (e : outParam Nat) (z : outParam (List AV)) : Prop where
  un : P.underlying t = some (.slice e)
  zero : ∃ v, (∀ w, (zeroValue e).run P w = .ok v w) ∧ cvSL v.cells.toList = some z ∧ ∀ w, (Go.sizeOf e).run P w = .ok z.length w
  bytes : ∃ i, (∀ w, (typeInfo e).run P w = .ok i w) ∧ i.bytes ≤ 100000
theorem U_makeSlice {t e n : Nat} {z : List AV} {x y : Operand} {k k' : IntKind} {m : Int} [hT : TyMake C.P t e z] (hx : ev T x = some (.int k m)) (hy : ev T y = some (.int k' m)) (hm : m = n) (hlim : n ≤ 1000000) :
    OpU C ⟨d, .makeSlice t x y, ty, pos, after, g⟩ T H nx (.slice nx 0 n n) [(nx, some (.cells (List.replicate n z).flatten e))] (nx + 1) :=
  OpU.of_run (by intro c; simp) fun ρ Φ a w h1 h2 h3 => by
    subst hm
    obtain ⟨zv, hz1, hz2, hz3⟩ := hT.zero
    obtain ⟨i, hi1, hi2⟩ := hT.bytes
    have hzc := cvSL_con (ρ := ρ) (Φ := Φ) (w := w) hz2
    have hzs : zv.cells.size = z.length := by have := conL_len hzc; simpa using this
    have hw : IntKind.i64.wrap (n : Int) = n := w64 (by omega) (by omega)
    have hbig : ¬ ((i.bytes : Int) * (n : Int) > 2 ^ 48) := by
      have : i.bytes * n ≤ 100000 * 1000000 := Nat.mul_le_mul hi2 hlim
      have : ((i.bytes * n : Nat) : Int) ≤ 100000000000 := by omega
      rw [Int.natCast_mul] at this; omega
    have fin : ∀ Z : Array Value, ((Array.range (n * z.length)).map (Z[· % Z.size]!)).toList = (List.replicate n zv.cells.toList).flatten →
        (Instr.makeSlice t (.int k n) (.int k' n)).run C.P w = .ok (.slice (some ⟨w.heap.size, 0, none⟩) n n) (w.alloc (.cells ((Array.range (n * z.length)).map (Z[· % Z.size]!)) e)) →
        ∃ ρ' Φ' x' w', ((execOp a.eval ⟨d, .makeSlice t x y, ty, pos, after, g⟩).run C.P w = .ok (.value x') w' ∨ ((execOp a.eval ⟨d, .makeSlice t x y, ty, pos, after, g⟩).run C.P w = .ok .skip w' ∧ x' = undef)) ∧ Post C.Wr C.w0 ρ Φ w nx (nx + 1) (([(nx, some (ABlk.cells (List.replicate n z).flatten e))] : AH).map (·.1)) (gt ([(nx, some (ABlk.cells (List.replicate n z).flatten e))] ++ H)) ρ' Φ' w' ∧ Con ρ' Φ' w' (.slice nx 0 n n) x' := by
      intro Z hZ hrun
      have := new_at h3 h1 e (hZ ▸ conL_flat hzc n)
      refine ⟨_, _, .slice (some ⟨w.heap.size, 0, none⟩) n n, _, .inl ?_, this, by simp only [Con]; exact ⟨_, Env.upd_same _ _ _, rfl⟩⟩
      simp only [execOp, con_int (ev_con h2 hx), con_int (ev_con h2 hy), Sem.run_bind, hrun, Result.andThen_ok, Sem.run_pure]
    by_cases h0 : n * z.length = 0
    · refine fin #[] ?_ ?_
      · rw [h0]
        have : (List.replicate n zv.cells.toList).flatten.length = 0 := by simp [hzs, h0]
        rw [List.length_eq_zero_iff.1 this]; simp
      · simp [Instr.makeSlice, run_underlying hT.un, asInt, asIntOf, hi1, hw, hz3, h0, newRow]
        intro hh; exfalso; omega
    · refine fin zv.cells ?_ ?_
      · rw [← hzs]; exact zeros_eq zv.cells n
      · simp [Instr.makeSlice, run_underlying hT.un, asInt, asIntOf, hi1, hw, hz3, h0, newRow, hz1]
        intro hh; exfalso; omega
end ops
end Go.AE
end

section
namespace Go.AE
open Go.RowKit
theorem w64e {n m : Int} (e : n = m) (h1 : -9223372036854775808 ≤ n) (h2 : n ≤ 9223372036854775807) : IntKind.i64.wrap n = m := (w64 h1 h2).trans e
theorem ltOf {a b : Nat} (h : a.blt b = true) : a < b := by simpa [Nat.blt_eq] using h
mutual
def AV.belb (n : Nat) : AV → Bool
  | .bool _ | .int _ _ | .str _ | .nilp | .nils | .nilm | .nilf | .nili | .rop _ _ | .ros _ _ _ | .rom _ => true
  | .ptr b _ | .slice b _ _ _ | .sliceo b _ _ _ | .out b _ _ | .mapl b | .yld b => b.blt n
  | .agg cs | .tup cs => belbL n cs
  | .fn _ a b => belbL n a && belbL n b
def belbL (n : Nat) : List AV → Bool
  | [] => true
  | v :: vs => v.belb n && belbL n vs
end
def belbE (n : Nat) : List (AV × AV × Nat) → Bool
  | [] => true
  | (k, v, _) :: es => k.belb n && v.belb n && belbE n es
def belbT (n : Nat) : AT → Bool
  | [] => true
  | (_, v) :: T => v.belb n && belbT n T
def ABlk.belb (n : Nat) : ABlk → Bool
  | .cells cs _ => belbL n cs
  | .map es _ => belbE n es
  | .iter v _ _ _ => v.belb n
  | .loop _ _ T _ _ _ _ d => d.blt n && belbT n T
  | .defd _ => true
mutual
/-- A value, with other numbers of its blocks. -/
def AV.ren (σ : Nat → Nat) : AV → AV
  | .ptr b o => .ptr (σ b) o
  | .slice b o n c => .slice (σ b) o n c
  | .sliceo b o n z => .sliceo (σ b) o n z
  | .out b n z => .out (σ b) n z
  | .mapl b => .mapl (σ b)
  | .yld b => .yld (σ b)
  | .agg l => .agg (renL σ l)
  | .tup l => .tup (renL σ l)
  | .fn f x y => .fn f (renL σ x) (renL σ y)
  | v => v
def renL (σ : Nat → Nat) : List AV → List AV
  | [] => []
  | v :: l => v.ren σ :: renL σ l
end
def renT (σ : Nat → Nat) : AT → AT
  | [] => []
  | (i, v) :: T => (i, v.ren σ) :: renT σ T
def renE (σ : Nat → Nat) : List (AV × AV × Nat) → List (AV × AV × Nat)
  | [] => []
  | (k, v, n) :: T => (k.ren σ, v.ren σ, n) :: renE σ T
def ABlk.ren (σ : Nat → Nat) : ABlk → ABlk
  | .cells l t => .cells (renL σ l) t
  | .map es ck => .map (renE σ es) ck
  | .iter v s l c => .iter (v.ren σ) s l c
  | .loop st pending T nt params assign body d => .loop st pending (renT σ T) nt params assign body (σ d)
  | k => k
section
variable {ρ ρ' : Env} {Φ : Fz} {w : World} {n : Nat} {σ : Nat → Nat}
mutual
/-- From the old numbers to the new ones. -/
theorem Con.unren (h : ∀ b x, b < n → ρ (σ b) = some x → ρ' b = some x) : ∀ (v : AV) {y : Value}, v.belb n = true → Con ρ Φ w (v.ren σ) y → Con ρ' Φ w v y
  | .bool _, _, _, k | .int _ _, _, _, k | .str _, _, _, k | .nilp, _, _, k | .nils, _, _, k | .nilm, _, _, k | .nilf, _, _, k | .nili, _, _, k => by simpa only [AV.ren, Con] using k
  | .rop cs o, _, _, k => Con.data (.rop cs o) rfl (by simpa only [AV.ren] using k)
  | .ros cs m c, _, _, k => Con.data (.ros cs m c) rfl (by simpa only [AV.ren] using k)
  | .rom es, _, _, k => Con.data (.rom es) rfl (by simpa only [AV.ren] using k)
  | .ptr b _, _, d, k | .slice b _ _ _, _, d, k | .mapl b, _, d, k | .yld b, _, d, k => by
    simp only [AV.ren, Con] at k ⊢; obtain ⟨z, h1, h2⟩ := k; exact ⟨z, h b z (ltOf d) h1, h2⟩
  | .sliceo b _ _ _, _, d, k => by
    simp only [AV.ren, Con] at k ⊢; obtain ⟨z, m, h1, h2⟩ := k; exact ⟨z, m, h b z (ltOf d) h1, h2⟩
  | .out b _ _, _, d, k => by
    simp only [AV.ren, Con] at k ⊢; exact k.imp id fun ⟨h0, z, m, h1, h2⟩ => ⟨h0, z, m, h b z (ltOf d) h1, h2⟩
  | .agg l, _, d, k => by
    have d' : belbL n l = true := by simpa only [AV.belb] using d
    simp only [AV.ren, Con] at k ⊢; obtain ⟨xs, h1, h2⟩ := k; exact ⟨xs, ConL.unren h l d' h1, h2⟩
  | .tup l, _, d, k => by
    have d' : belbL n l = true := by simpa only [AV.belb] using d
    simp only [AV.ren, Con] at k ⊢; obtain ⟨xs, h1, h2⟩ := k; exact ⟨xs, ConL.unren h l d' h1, h2⟩
  | .fn f a b, _, d, k => by
    have d' : belbL n a = true ∧ belbL n b = true := by simpa only [AV.belb, Bool.and_eq_true] using d
    simp only [AV.ren, Con] at k ⊢; obtain ⟨xs, ys, h1, h2, h3⟩ := k; exact ⟨xs, ys, ConL.unren h a d'.1 h1, ConL.unren h b d'.2 h2, h3⟩
theorem ConL.unren (h : ∀ b x, b < n → ρ (σ b) = some x → ρ' b = some x) : ∀ (l : List AV) {ys : List Value}, belbL n l = true → ConL ρ Φ w (renL σ l) ys → ConL ρ' Φ w l ys
  | [], _, _, k => by simpa only [renL, ConL] using k
  | v :: l, _, d, k => by
    have d' : v.belb n = true ∧ belbL n l = true := by simpa only [belbL, Bool.and_eq_true] using d
    simp only [renL] at k
    obtain ⟨y, ys, rfl, h1, h2⟩ := conL_inv k; exact conL_cons (Con.unren h v d'.1 h1) (ConL.unren h l d'.2 h2)
end
mutual
theorem Con.ren (h : ∀ b x, ρ' b = some x → ρ (σ b) = some x) : ∀ (v : AV) {y : Value}, Con ρ' Φ w v y → Con ρ Φ w (v.ren σ) y
  | .bool _, _, k | .int _ _, _, k | .str _, _, k | .nilp, _, k | .nils, _, k | .nilm, _, k | .nilf, _, k | .nili, _, k => by simpa only [AV.ren, Con] using k
  | .rop cs o, _, k => by simp only [AV.ren]; exact Con.data (.rop cs o) rfl k
  | .ros cs m c, _, k => by simp only [AV.ren]; exact Con.data (.ros cs m c) rfl k
  | .rom es, _, k => by simp only [AV.ren]; exact Con.data (.rom es) rfl k
  | .ptr b _, _, k | .slice b _ _ _, _, k | .mapl b, _, k | .yld b, _, k => by
    simp only [AV.ren, Con] at k ⊢; obtain ⟨z, h1, h2⟩ := k; exact ⟨z, h b z h1, h2⟩
  | .sliceo b _ _ _, _, k => by
    simp only [AV.ren, Con] at k ⊢; obtain ⟨z, m, h1, h2⟩ := k; exact ⟨z, m, h b z h1, h2⟩
  | .out b _ _, _, k => by
    simp only [AV.ren, Con] at k ⊢; exact k.imp id fun ⟨h0, z, m, h1, h2⟩ => ⟨h0, z, m, h b z h1, h2⟩
  | .agg l, _, k => by
    simp only [AV.ren, Con] at k ⊢; obtain ⟨xs, h1, h2⟩ := k; exact ⟨xs, ConL.ren h l h1, h2⟩
  | .tup l, _, k => by
    simp only [AV.ren, Con] at k ⊢; obtain ⟨xs, h1, h2⟩ := k; exact ⟨xs, ConL.ren h l h1, h2⟩
  | .fn f a b, _, k => by
    simp only [AV.ren, Con] at k ⊢; obtain ⟨xs, ys, h1, h2, h3⟩ := k; exact ⟨xs, ys, ConL.ren h a h1, ConL.ren h b h2, h3⟩
theorem ConL.ren (h : ∀ b x, ρ' b = some x → ρ (σ b) = some x) : ∀ (l : List AV) {ys : List Value}, ConL ρ' Φ w l ys → ConL ρ Φ w (renL σ l) ys
  | [], _, k => by simpa only [renL, ConL] using k
  | v :: l, _, k => by
    simp only [renL]
    obtain ⟨y, ys, rfl, h1, h2⟩ := conL_inv k; exact conL_cons (Con.ren h v h1) (ConL.ren h l h2)
end
theorem ConE.unren (h : ∀ b x, b < n → ρ (σ b) = some x → ρ' b = some x) : ∀ (l : List (AV × AV × Nat)) {ys : List MapEntry}, belbE n l = true → ConE ρ Φ w (renE σ l) ys → ConE ρ' Φ w l ys
  | [], _, _, k => by simpa only [renE, ConE] using k
  | (a, v, m) :: l, _, d, k => by
    have d' : (a.belb n = true ∧ v.belb n = true) ∧ belbE n l = true := by simpa only [belbE, Bool.and_eq_true] using d
    simp only [renE, ConE] at k ⊢
    obtain ⟨x, y, ys, h0, h1, h2, h3⟩ := k; exact ⟨x, y, ys, h0, Con.unren h a d'.1.1 h1, Con.unren h v d'.1.2 h2, ConE.unren h l d'.2 h3⟩
theorem ConE.ren (h : ∀ b x, ρ' b = some x → ρ (σ b) = some x) : ∀ (l : List (AV × AV × Nat)) {ys : List MapEntry}, ConE ρ' Φ w l ys → ConE ρ Φ w (renE σ l) ys
  | [], _, k => by simpa only [renE, ConE] using k
  | (a, v, m) :: l, _, k => by
    simp only [renE, ConE] at k ⊢
    obtain ⟨x, y, ys, h0, h1, h2, h3⟩ := k; exact ⟨x, y, ys, h0, Con.ren h a h1, Con.ren h v h2, ConE.ren h l h3⟩
theorem renT_lk : ∀ {T : AT} {i : Nat}, lk (renT σ T) i = (lk T i).map (AV.ren σ)
  | [], i => rfl
  | (j, u) :: T, i => by
    simp only [renT, lk_cons]
    split
    · rfl
    · exact renT_lk
theorem belbT_lk : ∀ {T : AT}, belbT n T = true → ∀ i v, lk T i = some v → v.belb n = true
  | [], _, i, v, h => by cases h
  | (j, u) :: T, d, i, v, h => by
    have d' : u.belb n = true ∧ belbT n T = true := by simpa only [belbT, Bool.and_eq_true] using d
    rw [lk_cons] at h; split at h
    · cases h; exact d'.1
    · exact belbT_lk d'.2 i v h
theorem TmpsAt.unren (h : ∀ b x, b < n → ρ (σ b) = some x → ρ' b = some x) {T : AT} {nt : Nat} {tmps : Array Value} (hb : belbT n T = true) (k : TmpsAt ρ Φ w (renT σ T) nt tmps) : TmpsAt ρ' Φ w T nt tmps :=
  ⟨k.size, fun i v hi => by
    obtain ⟨x, e1, e2⟩ := k.at_ i (v.ren σ) (by rw [renT_lk, hi]; rfl)
    exact ⟨x, Con.unren h v (belbT_lk hb i v hi) e1, e2⟩⟩
theorem TmpsAt.ren (h : ∀ b x, ρ' b = some x → ρ (σ b) = some x) {T : AT} {nt : Nat} {tmps : Array Value} (k : TmpsAt ρ' Φ w T nt tmps) : TmpsAt ρ Φ w (renT σ T) nt tmps :=
  ⟨k.size, fun i v hi => by
    rw [renT_lk] at hi
    cases e : lk T i with
    | none => rw [e] at hi; cases hi
    | some u =>
      rw [e] at hi; cases hi
      obtain ⟨x, e1, e2⟩ := k.at_ i u e
      exact ⟨x, Con.ren h u e1, e2⟩⟩
theorem BlkAt.unren (h : ∀ b x, b < n → ρ (σ b) = some x → ρ' b = some x) {y : Nat × Nat × Nat} : ∀ {k : ABlk} {o : Obj}, k.belb n = true → BlkAt ρ Φ w y (k.ren σ) o → BlkAt ρ' Φ w y k o
  | .cells _ _, _, d, ⟨pre, ys, rest, h2, h3⟩ => ⟨pre, ys, rest, ConL.unren h _ d h2, h3⟩
  | .map _ _, _, d, ⟨l, h2, h3⟩ => ⟨l, ConE.unren h _ d h2, h3⟩
  | .iter _ _ _ _, _, d, ⟨r, h2, h3⟩ => ⟨r, Con.unren h _ d h2, h3⟩
  | .loop _ _ T _ _ _ _ d0, _, d, ⟨fn, tmps, z, h2, h3, h4⟩ => by
    have d' : d0.blt n = true ∧ belbT n T = true := by simpa only [ABlk.belb, Bool.and_eq_true] using d
    exact ⟨fn, tmps, z, h _ _ (ltOf d'.1) h2, h3.unren h d'.2, h4⟩
  | .defd _, _, _, k => k
theorem BlkAt.ren (h : ∀ b x, ρ' b = some x → ρ (σ b) = some x) {y : Nat × Nat × Nat} : ∀ {k : ABlk} {o : Obj}, BlkAt ρ' Φ w y k o → BlkAt ρ Φ w y (k.ren σ) o
  | .cells _ _, _, ⟨pre, ys, rest, h2, h3⟩ => ⟨pre, ys, rest, ConL.ren h _ h2, h3⟩
  | .map _ _, _, ⟨l, h2, h3⟩ => ⟨l, ConE.ren h _ h2, h3⟩
  | .iter _ _ _ _, _, ⟨r, h2, h3⟩ => ⟨r, Con.ren h _ h2, h3⟩
  | .loop _ _ _ _ _ _ _ _, _, ⟨fn, tmps, z, h2, h3, h4⟩ => ⟨fn, tmps, z, h _ _ h2, h3.ren h, h4⟩
  | .defd _, _, k => k
end
def notin (σ : Nat → Nat) (n : Nat) : List Nat → Bool
  | [] => true
  | m :: l => !(n.beq (σ m)) && notin σ n l
def injL (σ : Nat → Nat) : List Nat → Bool
  | [] => true
  | m :: l => notin σ (σ m) l && injL σ l
theorem notin_of {σ : Nat → Nat} {n : Nat} : ∀ {l : List Nat}, notin σ n l = true → ∀ m ∈ l, n ≠ σ m
  | [], _, m, hm => by simp at hm
  | c :: l, h, m, hm => by
    have h' : (!(n.beq (σ c))) = true ∧ notin σ n l = true := by simpa only [notin, Bool.and_eq_true] using h
    rcases List.mem_cons.1 hm with rfl | hm
    · intro e
      have := h'.1
      rw [e] at this; simp at this
    · exact notin_of h'.2 m hm
theorem injL_of {σ : Nat → Nat} : ∀ {l : List Nat}, injL σ l = true → ∀ a ∈ l, ∀ b ∈ l, σ a = σ b → a = b
  | [], _, a, ha, _, _, _ => by simp at ha
  | c :: l, h, a, ha, b, hb, e => by
    have h' : notin σ (σ c) l = true ∧ injL σ l = true := by simpa only [injL, Bool.and_eq_true] using h
    rcases List.mem_cons.1 ha with e1 | ha'
    · rcases List.mem_cons.1 hb with e2 | hb'
      · rw [e1, e2]
      · rw [e1] at e; exact absurd e (notin_of h'.1 b hb')
    · rcases List.mem_cons.1 hb with e2 | hb'
      · rw [e2] at e; exact absurd e.symm (notin_of h'.1 a ha')
      · exact injL_of h'.2 a ha' b hb' e
mutual
theorem ren_id_v : ∀ (v : AV), v.ren id = v
  | .bool _ | .int _ _ | .str _ | .nilp | .nils | .nilm | .nilf | .nili | .rop _ _ | .ros _ _ _ | .rom _ | .ptr _ _ | .slice _ _ _ _ | .sliceo _ _ _ _ | .out _ _ _ | .mapl _ | .yld _ => rfl
  | .agg cs => by simp only [AV.ren, ren_id_L cs]
  | .tup cs => by simp only [AV.ren, ren_id_L cs]
  | .fn f a b => by simp only [AV.ren, ren_id_L a, ren_id_L b]
theorem ren_id_L : ∀ (l : List AV), renL id l = l
  | [] => rfl
  | v :: l => by simp only [renL, ren_id_v v, ren_id_L l]
end
theorem ren_id_T (l : AT) : renT id l = l := by
  induction l with
  | nil => rfl
  | cons v l ih => obtain ⟨i, v⟩ := v; simp [renT, ih, ren_id_v]
theorem ren_id_E (l : List (AV × AV × Nat)) : renE id l = l := by
  induction l with
  | nil => rfl
  | cons v l ih => obtain ⟨i, v, n⟩ := v; simp [renE, ih, ren_id_v]
theorem ren_id_B (k : ABlk) : k.ren id = k := by
  cases k <;> simp [ABlk.ren, ren_id_L, ren_id_T, ren_id_E, ren_id_v]
section
variable {C : Ctx} {c : Code} {Q : Exit → St → Prop} {T T' : AT} {H H' : AH} {nx nx' : Nat} {df : List Nat}
def againP (C : Ctx) (I : Nat → St → Prop) (n : Nat) (s : St) : Prop := ∃ s' m, Gh C s s' ∧ m < n ∧ I m s'
theorem Wloop (h : c.tag = 6) (I : Nat → St → Prop) {n : Nat} (h0 : I n ⟨T, H, nx, df⟩) (round : ∀ n s, I n s → WpA C c.l (thenQ (againP C I n) Q) s) : WpA C c Q ⟨T, H, nx, df⟩ :=
  W_loop h (fun n s => ∃ s', Gh C s s' ∧ I n s') ⟨_, Gh.refl, h0⟩ fun n s ⟨s', hg, hI⟩ => W_gh hg ((round n s' hI).mono fun e s hq => by
    cases e with
    | normal => obtain ⟨s'', m, h1, h2, h3⟩ := hq; exact ⟨m, h2, s'', h1, h3⟩
    | _ => exact hq)
def noGo (Q : Exit → St → Prop) : Exit → St → Prop
  | .goto _, _ => False
  | e, s => Q e s
theorem tag_scope (h : c.tag = 9) : c = .scope c.l := by
  cases c
  case scope => rfl
  case region i o d => cases d <;> cases h
  all_goals cases h
theorem tag_label (h : c.tag = 10) : ∃ l, c = .label l := by
  cases c
  case label l => exact ⟨l, rfl⟩
  case region i o d => cases d <;> cases h
  all_goals cases h
theorem W_label {s : St} (h : c.tag = 10) (k : Q .normal s) : WpA C c Q s := by
  obtain ⟨l, rfl⟩ := tag_label h; exact fun ρ Φ a w hc => wpIn_label ⟨s, ρ, Φ, k, hc⟩
theorem stepR_scope {P : Program} {b : Frame} {a : Act} {k : List Item} {cs : List Frame} {w : World} {c : Code} : step P (lone (b.atR a (.code (.scope c) :: k)) cs w) = .next (lone (b.atR a (.code c :: .inScope c :: k)) cs w) :=
  step_lone_go (by simp [stepG, stepG.exec, Frame.atR])
theorem stepR_inScope {P : Program} {b : Frame} {a : Act} {k : List Item} {cs : List Frame} {w : World} {c : Code} : step P (lone (b.atR a (.inScope c :: k)) cs w) = .next (lone (b.atR a k) cs w) :=
  step_lone_go (by simp [stepG, stepG.exec, Frame.atR])
theorem W_scope {s : St} (h : c.tag = 9) (k : WpA C c.l (noGo Q) s) : WpA C c Q s := by
  rw [tag_scope h]
  intro ρ Φ a w hc b kk cs hro hb hr
  have h0 : (lone (b.atR a (.code (.scope c.l) :: kk)) cs w).fenced C.P C.F := fenced_calm hb hr rfl
  obtain ⟨e, a₁, w₁, ⟨s₁, ρ₁, Φ₁, hq, hc₁⟩, harr⟩ := k ρ Φ a w hc b (.inScope c.l :: kk) cs hro hb hr
  cases e with
  | normal => exact ⟨.normal, a₁, w₁, ⟨s₁, ρ₁, Φ₁, hq, hc₁⟩, .head h0 stepR_scope (StepsIn.trans harr (.one (fenced_calm hb hr rfl) stepR_inScope))⟩
  | exit id =>
    have hx : exitTo id (.inScope c.l :: kk) = exitTo id kk := by simp [exitTo]
    exact ⟨.exit id, a₁, w₁, ⟨s₁, ρ₁, Φ₁, hq, hc₁⟩, fun k' hk => .head h0 stepR_scope (harr.1 k' (by rw [hx]; exact hk)),
      fun hr' hk => let ⟨k₁, h1, h2⟩ := harr.2 hr' (by rw [hx]; exact hk); ⟨k₁, h1, .head h0 stepR_scope h2⟩⟩
  | goto l => exact hq.elim
  | ret => exact ⟨_, a₁, w₁, ⟨s₁, ρ₁, Φ₁, hq, hc₁⟩, .of_steps (.one h0 stepR_scope) harr⟩
  | panic ch => exact ⟨_, a₁, w₁, ⟨s₁, ρ₁, Φ₁, hq, hc₁⟩, .of_steps (.one h0 stepR_scope) harr⟩
  | outgrown => exact ⟨_, a₁, w₁, ⟨s₁, ρ₁, Φ₁, hq, hc₁⟩, .of_steps (.one h0 stepR_scope) harr⟩
theorem noGo_r {s : St} (h : Q .ret s) : noGo Q .ret s := h
end
section
variable {P : Program} {w0 : World} {Φ0 : Fz} {nt : Nat} {T : AT} {H : AH} {nx : Nat}
end
end Go.AE
end

section
namespace Go.AE
open Go.RowKit
def flatF (P : Program) (g : TypeId → Option (List IntKind)) : List Field → Nat → Option (List IntKind)
  | [], _ => some []
  | f :: fs, o =>
    if f.name ≠ "_" ∧ f.offset = o then
      match g f.type with
      | some l => match flatF P g fs (o + l.length) with
        | some m => some (l ++ m)
        | none => none
      | none => none
    else none
def flatT (P : Program) : Nat → TypeId → Option (List IntKind)
  | 0, _ => none
  | d + 1, t =>
    match P.underlying t with
    | some (.int k) => some [k]
    | some (.struct fs) => if P.stoodInHeld t = false ∧ P.cellsOf t = ((flatF P (flatT P d) fs.toList 0).getD []).length then flatF P (flatT P d) fs.toList 0 else none
    | some (.array n e) => match flatT P d e with
      | some l => if P.cellsOf t = (List.replicate n l).flatten.length ∧ P.cellsOf e = l.length then some (List.replicate n l).flatten else none
      | none => none
    | _ => none
def mkI (ks : List IntKind) (ns : List Int) : List Value := List.zipWith Value.int ks ns
theorem mkI_len {ks : List IntKind} {ns : List Int} (h : ns.length = ks.length) : (mkI ks ns).length = ks.length := by simp [mkI, h]
theorem mkI_app {k1 k2 : List IntKind} {ns : List Int} (h : ns.length = (k1 ++ k2).length) : mkI (k1 ++ k2) ns = mkI k1 (ns.take k1.length) ++ mkI k2 (ns.drop k1.length) := by
  unfold mkI
  conv => lhs; rw [← List.take_append_drop k1.length ns]
  rw [List.zipWith_append (by simp at h ⊢; omega)]
section
variable {P : Program}
def EqS (P : Program) (d : Nat) (t : TypeId) (ks : List IntKind) : Prop :=
  ∀ (w : World) (X Y : Array Value) (off : Nat) (ns ms : List Int), ns.length = ks.length → ms.length = ks.length → (X.toList.drop off).take ks.length = mkI ks ns → (Y.toList.drop off).take ks.length = mkI ks ms →
    ∃ a b, (part t X off).run P w = .ok a w ∧ (part t Y off).run P w = .ok b w ∧ ∀ j, (Op.equalIn (d + j) t a b).run P w = .ok (decide (ns = ms)) w
theorem dec_app {n1 n2 m1 m2 : List Int} (h : n1.length = m1.length) : decide (n1 ++ n2 = m1 ++ m2) = (decide (n1 = m1) && decide (n2 = m2)) := by
  have : (n1 ++ n2 = m1 ++ m2) ↔ n1 = m1 ∧ n2 = m2 := ⟨fun e => List.append_inj e h, fun ⟨a, b⟩ => by rw [a, b]⟩
  rw [Bool.eq_iff_iff, decide_eq_true_iff, Bool.and_eq_true, decide_eq_true_iff, decide_eq_true_iff]; exact this
theorem take_drop_app {α : Type} {L : List α} {o a b : Nat} {u v : List α} (h : (L.drop o).take (a + b) = u ++ v) (hu : u.length = a) : (L.drop o).take a = u ∧ (L.drop (o + a)).take b = v := by
  constructor
  · have e : (L.drop o).take a = ((L.drop o).take (a + b)).take a := by rw [List.take_take, Nat.min_eq_left (Nat.le_add_right a b)]
    rw [e, h, ← hu]; simp
  · have e : (L.drop (o + a)).take b = ((L.drop o).take (a + b)).drop a := by rw [List.drop_take, List.drop_drop, Nat.add_sub_cancel_left]
    rw [e, h, ← hu]; simp
theorem flatF_run {d : Nat} {g : TypeId → Option (List IntKind)} (IH : ∀ t ks, g t = some ks → EqS P d t ks) (j : Nat) {X Y : Array Value} {w : World} : ∀ (fs : List Field) (o : Nat) (ks : List IntKind) (ns ms : List Int), flatF P g fs o = some ks → ns.length = ks.length → ms.length = ks.length →
    (X.toList.drop o).take ks.length = mkI ks ns → (Y.toList.drop o).take ks.length = mkI ks ms → (Op.eqFields (d + j) X Y fs).run P w = .ok (decide (ns = ms)) w
  | [], o, ks, ns, ms, h, h1, h2, _, _ => by
    simp only [flatF] at h; cases h
    have e1 := List.length_eq_zero_iff.1 h1; have e2 := List.length_eq_zero_iff.1 h2
    subst e1; subst e2; simp [Op.eqFields]
  | f :: fs, o, ks, ns, ms, h, h1, h2, h3, h4 => by
    simp only [flatF] at h
    split at h
    · rename_i hf
      split at h
      · rename_i l hl
        split at h
        · rename_i m hm
          cases h
          rw [mkI_app h1] at h3; rw [mkI_app h2] at h4
          have n1 : (ns.take l.length).length = l.length := by simp at h1 ⊢; omega
          have m1 : (ms.take l.length).length = l.length := by simp at h2 ⊢; omega
          rw [List.length_append] at h3 h4
          obtain ⟨a1, a2⟩ := take_drop_app h3 (mkI_len n1)
          obtain ⟨b1, b2⟩ := take_drop_app h4 (mkI_len m1)
          obtain ⟨a, b, p1, p2, p3⟩ := IH f.type l hl w X Y o (ns.take l.length) (ms.take l.length) n1 m1 a1 b1
          have hrr := flatF_run IH j fs (o + l.length) m (ns.drop l.length) (ms.drop l.length) hm (by simp at h1 ⊢; omega) (by simp at h2 ⊢; omega) a2 b2 (w := w)
          have e : decide (ns = ms) = (decide (ns.take l.length = ms.take l.length) && decide (ns.drop l.length = ms.drop l.length)) := by
            rw [← dec_app (by rw [n1, m1]), List.take_append_drop, List.take_append_drop]
          rw [e]
          simp only [Op.eqFields, hf.1, ne_eq, not_false_eq_true, if_true, Sem.run_bind, hf.2, p1, p2, p3, Result.andThen_ok]
          by_cases hc : ns.take l.length = ms.take l.length
          · simp [hc, hrr]
          · simp [hc]
        · cases h
      · cases h
    · cases h
theorem flatA_run {d : Nat} {t : TypeId} {l : List IntKind} (IH : EqS P d t l) (hc : P.cellsOf t = l.length) (j : Nat) {X Y : Array Value} {w : World} : ∀ (n a : Nat) (ns ms : List Int), ns.length = (List.replicate n l).flatten.length → ms.length = (List.replicate n l).flatten.length →
    (X.toList.drop (a * l.length)).take (List.replicate n l).flatten.length = mkI (List.replicate n l).flatten ns → (Y.toList.drop (a * l.length)).take (List.replicate n l).flatten.length = mkI (List.replicate n l).flatten ms → (Op.eqItems (d + j) t (P.cellsOf t) X Y (List.range' a n)).run P w = .ok (decide (ns = ms)) w
  | 0, a, ns, ms, h1, h2, _, _ => by
    have e1 := List.length_eq_zero_iff.1 h1; have e2 := List.length_eq_zero_iff.1 h2
    subst e1; subst e2; simp [Op.eqItems]
  | n + 1, a, ns, ms, h1, h2, h3, h4 => by
    rw [List.replicate_succ, List.flatten_cons] at h1 h2 h3 h4
    rw [mkI_app h1] at h3; rw [mkI_app h2] at h4
    have n1 : (ns.take l.length).length = l.length := by simp at h1 ⊢; omega
    have m1 : (ms.take l.length).length = l.length := by simp at h2 ⊢; omega
    rw [List.length_append] at h3 h4
    obtain ⟨a1, a2⟩ := take_drop_app h3 (mkI_len n1)
    obtain ⟨b1, b2⟩ := take_drop_app h4 (mkI_len m1)
    obtain ⟨x, y, p1, p2, p3⟩ := IH w X Y (a * l.length) (ns.take l.length) (ms.take l.length) n1 m1 a1 b1
    have hrr := flatA_run IH hc j n (a + 1) (ns.drop l.length) (ms.drop l.length) (by rw [List.length_drop, h1, List.length_append]; omega) (by rw [List.length_drop, h2, List.length_append]; omega) (by rw [Nat.add_mul, Nat.one_mul]; exact a2) (by rw [Nat.add_mul, Nat.one_mul]; exact b2) (w := w)
    have e : decide (ns = ms) = (decide (ns.take l.length = ms.take l.length) && decide (ns.drop l.length = ms.drop l.length)) := by
      rw [← dec_app (by rw [n1, m1]), List.take_append_drop, List.take_append_drop]
    rw [e]
    rw [hc] at hrr
    simp only [List.range'_succ, Op.eqItems, Sem.run_bind, hc, p1, p2, p3, Result.andThen_ok]
    by_cases hcc : ns.take l.length = ms.take l.length
    · simp [hcc, hrr]
    · simp [hcc]
theorem extract_eq {X : Array Value} {off n : Nat} : (X.extract off (off + n)).toList = (X.toList.drop off).take n := by
  rw [Array.toList_extract]; simp [List.extract_eq_take_drop]
theorem flat_ok : ∀ (d : Nat) (t : TypeId) (ks : List IntKind), flatT P d t = some ks → EqS P d t ks
  | 0, t, ks, h => by cases h
  | d + 1, t, ks, h => by
    intro w X Y off ns ms h1 h2 h3 h4
    unfold flatT at h
    cases hu : P.underlying t with
    | none => simp [hu] at h
    | some td =>
      obtain ⟨i, hi⟩ := info_of_underlying hu
      rw [hu] at h
      cases td
      case int k =>
        simp only at h; cases h
        match ns, ms, h1, h2 with
        | [n], [m], _, _ =>
          have e1 : X[off]? = some (.int k n) := by
            have := congrArg (fun l => l[0]?) h3; simpa [mkI] using this
          have e2 : Y[off]? = some (.int k m) := by
            have := congrArg (fun l => l[0]?) h4; simpa [mkI] using this
          refine ⟨.int k n, .int k m, by simp [part, isAgg, run_underlying hu, e1], by simp [part, isAgg, run_underlying hu, e2], fun j => ?_⟩
          rw [show d + 1 + j = (d + j) + 1 by omega, run_equalIn_int _ _ t k k n m hu]
          congr 1; rw [Bool.eq_iff_iff]; simp
      case struct fs =>
        simp only at h
        split at h
        · rename_i hh
          rw [h] at hh
          have hsz : (Go.sizeOf t).run P w = .ok ks.length w := by rw [run_sizeOf w hi]; rw [hh.2]; rfl
          refine ⟨.agg (X.extract off (off + ks.length)), .agg (Y.extract off (off + ks.length)), by simp [part, isAgg, run_underlying hu, hsz], by simp [part, isAgg, run_underlying hu, hsz], fun j => ?_⟩
          have hfs : P.fieldsOf t = fs := by simp [Program.fieldsOf, hu]
          rw [show d + 1 + j = (d + j) + 1 by omega, run_equalIn_struct w (d + j) t _ _ (by rw [hfs]; exact hu) hh.1, hfs]
          refine flatF_run (fun t ks h => flat_ok d t ks h) j fs.toList 0 ks ns ms h h1 h2 ?_ ?_
          · rw [extract_eq, List.drop_zero, List.take_take, Nat.min_self]; exact h3
          · rw [extract_eq, List.drop_zero, List.take_take, Nat.min_self]; exact h4
        · cases h
      case array n e =>
        simp only at h
        split at h
        · rename_i l hl
          split at h
          · rename_i hh
            cases h
            have hsz : (Go.sizeOf t).run P w = .ok (List.replicate n l).flatten.length w := by rw [run_sizeOf w hi, hh.1]
            refine ⟨.agg (X.extract off (off + (List.replicate n l).flatten.length)), .agg (Y.extract off (off + (List.replicate n l).flatten.length)), by simp only [part, isAgg, run_underlying hu, hsz, Sem.run_bind, Result.andThen_ok, Sem.run_pure, if_true], by simp only [part, isAgg, run_underlying hu, hsz, Sem.run_bind, Result.andThen_ok, Sem.run_pure, if_true], fun j => ?_⟩
            have hie : ∃ i, P.info? e = some i := by
              cases d with
              | zero => cases hl
              | succ d =>
                unfold flatT at hl
                cases hue : P.underlying e with
                | none => simp [hue] at hl
                | some _ => exact info_of_underlying hue
            obtain ⟨ie, hie⟩ := hie
            rw [show d + 1 + j = (d + j) + 1 by omega, run_equalIn_array w (d + j) _ _ hu hie, List.range_eq_range']
            refine flatA_run (flat_ok d e l hl) hh.2 j n 0 ns ms h1 h2 ?_ ?_
            · rw [Nat.zero_mul, extract_eq, List.drop_zero, List.take_take, Nat.min_self]; exact h3
            · rw [Nat.zero_mul, extract_eq, List.drop_zero, List.take_take, Nat.min_self]; exact h4
          · cases h
        · cases h
      all_goals (simp at h; done)
end
class TyEq (P : Program) (t : TypeId) (ks : outParam (List IntKind)) : Prop where
  ok : flatT P 9 t = some ks
  guard : P.eqGuardType P.depth t = false
  agg : (match P.underlying t with | some (.array _ _) | some (.struct _) => true | _ => false) = true
theorem TyEq.run {P : Program} {t : TypeId} {ks : List IntKind} (h : TyEq P t ks) {ns ms : List Int} (h1 : ns.length = ks.length) (h2 : ms.length = ks.length) (w : World) :
    (Op.equal t (.agg (mkI ks ns).toArray) (.agg (mkI ks ms).toArray)).run P w = .ok (decide (ns = ms)) w := by
  obtain ⟨a, b, e1, e2, e3⟩ := flat_ok 9 t ks h.ok w (mkI ks ns).toArray (mkI ks ms).toArray 0 ns ms h1 h2 (by rw [List.drop_zero, List.take_of_length_le (by simp [mkI_len h1])]) (by rw [List.drop_zero, List.take_of_length_le (by simp [mkI_len h2])])
  have key : ∀ ns : List Int, ns.length = ks.length → ∀ a, (part t (mkI ks ns).toArray 0).run P w = .ok a w → a = .agg (mkI ks ns).toArray := by
    intro ns h1 a e1
    have hag : (isAgg t).run P w = .ok true w := by
      have := h.agg
      split at this
      · rename_i n e hu; simp [isAgg, run_underlying hu]
      · rename_i fs hu; simp [isAgg, run_underlying hu]
      · cases this
    have hsz : (Go.sizeOf t).run P w = .ok ks.length w := by
      have hk := h.ok
      unfold flatT at hk
      cases hu : P.underlying t with
      | none => rw [hu] at hk; cases hk
      | some td =>
        obtain ⟨i, hi⟩ := info_of_underlying hu
        rw [run_sizeOf w hi]
        rw [hu] at hk
        have hag := h.agg; rw [hu] at hag
        cases td <;> simp only [Bool.false_eq_true] at hag
        · simp only at hk
          split at hk
          · split at hk
            · rename_i hh; cases hk; rw [hh.1]
            · cases hk
          · cases hk
        · simp only at hk
          split at hk
          · rename_i hh; rw [hk] at hh; rw [hh.2]; rfl
          · cases hk
    simp only [part, hag, hsz, Sem.run_bind, Result.andThen_ok, if_true, Sem.run_pure] at e1
    cases e1
    congr 1
    apply Array.ext'
    rw [extract_eq, List.drop_zero, List.take_of_length_le (by simp [mkI_len h1])]
  rw [key ns h1 a e1, key ms h2 b e2] at e3
  exact e3 9991
def numsOf : List AV → Option (List Int)
  | [] => some []
  | .int _ n :: l => match numsOf l with
    | some m => some (n :: m)
    | none => none
  | _ => none
def kindsA : List AV → List IntKind
  | .int k _ :: l => k :: kindsA l
  | _ => []
theorem numsOf_con {ρ : Env} {Φ : Fz} {w : World} : ∀ {cs : List AV} {ns : List Int} {xs : List Value}, numsOf cs = some ns → ConL ρ Φ w cs xs → xs = mkI (kindsA cs) ns ∧ ns.length = (kindsA cs).length
  | [], ns, xs, h, k => by simp only [numsOf] at h; cases h; simp only [ConL] at k; subst k; exact ⟨rfl, rfl⟩
  | .int k n :: l, ns, xs, h, c => by
    simp only [numsOf] at h
    split at h
    · rename_i m hm
      cases h
      obtain ⟨y, ys, rfl, h1, h2⟩ := conL_inv c
      obtain ⟨e1, e2⟩ := numsOf_con hm h2
      have hy : y = .int k n := by simpa only [Con] using h1
      subst hy; subst e1
      exact ⟨rfl, by simp [kindsA, e2]⟩
    · cases h
theorem numsOf_agg {ρ : Env} {Φ : Fz} {w : World} {cs : List AV} {ns : List Int} {x : Value} (h : numsOf cs = some ns) (k : Con ρ Φ w (.agg cs) x) : x = .agg (mkI (kindsA cs) ns).toArray ∧ ns.length = (kindsA cs).length := by
  simp only [Con] at k
  obtain ⟨xs, h1, h2⟩ := k
  obtain ⟨e1, e2⟩ := numsOf_con h h1
  exact ⟨by rw [h2, e1], e2⟩
section ops
variable {C : Ctx} {T : AT} {H : AH} {nx : Nat} {d : Option Tmp} {ty : TypeId} {pos : String} {after : Array Edge} {g : Option (Nat × Bool)}
theorem U_eqlA {t t' : TypeId} {x y : Operand} {cs ds : List AV} {ks : List IntKind} {ns ms : List Int} {p : Prop} [Decidable p] [hT : TyEq C.P t ks] (hx : ev T x = some (.agg cs)) (hy : ev T y = some (.agg ds)) (h1 : numsOf cs = some ns) (h2 : numsOf ds = some ms) (k1 : kindsA cs = ks) (k2 : kindsA ds = ks) (hp : (ns = ms) ↔ p) :
    OpU C ⟨d, .binOp .eql t x y t', ty, pos, after, g⟩ T H nx (.bool (decide p)) [] nx :=
  OpU.of_value (by intro c; simp) fun ρ Φ a w h3 _ => by
    obtain ⟨e1, e2⟩ := numsOf_agg h1 (ev_con h3 hx)
    obtain ⟨e3, e4⟩ := numsOf_agg h2 (ev_con h3 hy)
    rw [k1] at e1 e2; rw [k2] at e3 e4
    refine ⟨.bool (decide p), ?_, mk_bool⟩
    have := hT.run e2 e4 w
    have hdec : decide (ns = ms) = decide p := decide_eq_decide.2 hp
    simp only [execOp, e1, e3, Sem.run_bind, run_eqGuard_agg w _ t _ _ _ _ hT.guard, Result.andThen_ok, run_eql_struct]
    rw [show (Op.equalIn 10000 t (.agg (mkI ks ns).toArray) (.agg (mkI ks ms).toArray)).run C.P w = .ok (decide (ns = ms)) w from this, hdec]; rfl
theorem U_neqA {t t' : TypeId} {x y : Operand} {cs ds : List AV} {ks : List IntKind} {ns ms : List Int} {p : Prop} [Decidable p] [hT : TyEq C.P t ks] (hx : ev T x = some (.agg cs)) (hy : ev T y = some (.agg ds)) (h1 : numsOf cs = some ns) (h2 : numsOf ds = some ms) (k1 : kindsA cs = ks) (k2 : kindsA ds = ks) (hp : (ns = ms) ↔ p) :
    OpU C ⟨d, .binOp .neq t x y t', ty, pos, after, g⟩ T H nx (.bool (decide (¬ p))) [] nx :=
  OpU.of_value (by intro c; simp) fun ρ Φ a w h3 _ => by
    obtain ⟨e1, e2⟩ := numsOf_agg h1 (ev_con h3 hx)
    obtain ⟨e3, e4⟩ := numsOf_agg h2 (ev_con h3 hy)
    rw [k1] at e1 e2; rw [k2] at e3 e4
    refine ⟨.bool (decide (¬ p)), ?_, mk_bool⟩
    have := hT.run e2 e4 w
    have hdec : decide (ns = ms) = decide p := decide_eq_decide.2 hp
    simp only [execOp, e1, e3, Sem.run_bind, run_eqGuard_agg w _ t _ _ _ _ hT.guard, Result.andThen_ok, run_neq_struct]
    rw [show (Op.equalIn 10000 t (.agg (mkI ks ns).toArray) (.agg (mkI ks ms).toArray)).run C.P w = .ok (decide (ns = ms)) w from this, hdec]
    simp
class TyBool (P : Program) (t : TypeId) : Prop where
  un : P.underlying t = some .bool
end ops
section
variable {P : Program} {w0 : World} {Φ0 : Fz} {nt : Nat} {T : AT} {H : AH} {nx : Nat}
theorem retL {rs : List ResultVar} {vs : List AV} {res : AV} (h : ResL P ⟨T, H, nx, []⟩ rs vs) (he : packA vs = res) (hd : res.data) : retQ P w0 Φ0 nt rs res .ret ⟨T, H, nx, []⟩ := ⟨_, vs, Gh.refl, h, he, hd⟩
theorem rl0 {s : St} : ResL P s [] [] := rfl
theorem rlT {s : St} {t : Nat} {v : AV} {rs : List ResultVar} {vs : List AV} (h : lk s.T t = some v) (k : ResL P s rs vs) : ResL P s (.tmp t :: rs) (v :: vs) := ⟨v, vs, rfl, h, k⟩
theorem rlA {s : St} {t ty n b : Nat} {cs : List AV} {e : TypeId} {rs : List ResultVar} {vs : List AV} [hT : TyVar P ty true n] (h : lk s.T t = some (.ptr b 0)) (hg : gt s.H b = some (.cells cs e)) (hl : cs.length = n) (k : ResL P s rs vs) : ResL P s (.cell t ty :: rs) (.agg cs :: vs) :=
  ⟨_, vs, rfl, ⟨.ptr b 0, cs, 0, n, true, hT, h, by simp only [src, hg], by subst hl; simp [cellsAt]⟩, k⟩
end
end Go.AE
end

section
namespace Go.AE
open Go.RowKit
def live (H : AH) (ρ : Env) (r : Nat) : Prop := ∃ b x, gt H b ≠ none ∧ ρ b = some x ∧ x.1 = r
def RetM (k : Nat) (H0 : AH) (res : AV) (H1 : AH) (n1 : Nat) (ρ : Env) (Φ : Fz) (w : World) (e : Ending) (w' : World) : Prop :=
  ∃ x ρ' Φ', e = .returned x ∧ Con ρ' Φ' w' res x ∧ k ≤ n1 ∧ (∀ b, ρ' b ≠ none → b < n1) ∧ (∀ b, b < k → ρ' b = ρ b) ∧ Mem (live H0 ρ) w ρ' Φ' (gt H1) w' ∧ Φ.le Φ' ∧ (∀ r, Φ' r → Φ r ∨ w.heap.size ≤ r ∨ live H0 ρ r) ∧ Dk Φ w Φ' w'
def MutP (P : Program) (f : FuncId) (args : List AV) (H0 : AH) (k : Nat) (res : AV) (H1 : AH) (n1 : Nat) : Prop :=
  ∀ (ρ : Env) (Φ : Fz) (w : World) (xs : List Value), (∀ b, ρ b ≠ none → b < k) → Mem (live H0 ρ) w ρ Φ (gt H0) w → ConL ρ Φ w args xs → Calls P f xs.toArray w (RetM k H0 res H1 n1 ρ Φ w)
def retMQ (C : Ctx) (rs : List ResultVar) (res : AV) (H1 : AH) (n1 : Nat) : Exit → St → Prop
  | .normal, s | .ret, s => ∃ T' vs, Gh C s ⟨T', H1, n1, []⟩ ∧ ResL C.P ⟨T', H1, n1, []⟩ rs vs ∧ packA vs = res
  | _, _ => False
theorem mut_of_body {P : Program} {f : FuncId} {fn : Func} {c : Code} (hf : P.funcs[f]? = some fn) (hb : fn.body = some c) {args : List AV} {H0 H1 : AH} {k n1 : Nat} {res : AV} (hk : k ≤ n1) (hn : args.length ≤ fn.ntmps)
    (h : ∀ w0 Φ0 ρ0, WpA ⟨P, w0, live H0 ρ0, Φ0, none, fn.ntmps, k, ρ0⟩ c (retMQ ⟨P, w0, live H0 ρ0, Φ0, none, fn.ntmps, k, ρ0⟩ fn.results.toList res H1 n1) ⟨argT 0 args, H0, k, []⟩) : MutP P f args H0 k res H1 n1 := by
  intro ρ Φ w xs hρ hm hargs
  have hlen := conL_len hargs
  refine (callsIn_wide (n := 0)).1 (callsIn_of_wp_marks hf hb trivial ?_ rfl)
  have hc : Conc ⟨P, w, live H0 ρ, Φ, none, fn.ntmps, k, ρ⟩ ⟨argT 0 args, H0, k, []⟩ ρ Φ { tmps := xs.toArray ++ Array.replicate (fn.ntmps - xs.toArray.size) undef, defers := [] } w := by
    refine ⟨hρ, ⟨by simp; omega, fun i v hi => ?_⟩, hm, Coll.nil _ _ _, ⟨fun _ h => .inl h, Fz.le_refl _⟩, fun _ _ => rfl, Nat.le_refl _, Dk.refl _ _⟩
    obtain ⟨_, h2⟩ := argT_lk args 0 i v hi
    obtain ⟨y, hy, hy2⟩ := conL_get hargs i v (by simpa using h2)
    exact ⟨y, hy, by obtain ⟨hl, e⟩ := List.getElem?_eq_some_iff.1 hy2; simp [Array.getElem?_append, hl, e]⟩
  refine wpIn_mono (h w Φ ρ ρ Φ _ w hc) ?_
  rintro e a' w' ⟨s', ρ', Φ', hq, hc'⟩
  have fin : ∀ e', (e' = Exit.normal ∨ e' = .ret) → (∃ T' vs, Gh ⟨P, w, live H0 ρ, Φ, none, fn.ntmps, k, ρ⟩ s' ⟨T', H1, n1, []⟩ ∧ ResL P ⟨T', H1, n1, []⟩ fn.results.toList vs ∧ packA vs = res) → bodyPostM Fence.wide 0 P fn (RetM k H0 res H1 n1 ρ Φ w) e' a' w' := by
    rintro e' he ⟨T', vs, hg, hr, hp⟩
    obtain ⟨ρ'', Φ'', hc''⟩ := hg ρ' Φ' a' w' hc'
    obtain ⟨ys, hd1, hd2, hd3⟩ := hc''.df
    have : LeavesInM Fence.wide 0 P fn a'.tmps (RetM k H0 res H1 n1 ρ Φ w) a'.defers .returning w' := by
      rw [hd1]
      refine leaves_of (C := ⟨P, w, live H0 ρ, Φ, none, fn.ntmps, k, ρ⟩) ys rfl hc'' hd2 hd3 fun a2 w2 ht hc2 => ?_
      obtain ⟨x, hx1, hx2⟩ := results_run hc2 hr
      exact ⟨x, ht ▸ hx1, x, ρ'', Φ'', rfl, hp ▸ hx2, hk, hc2.dom, hc2.base, hc2.mem, hc2.fz.2, hc2.fz.1, hc2.dk⟩
    rcases he with rfl | rfl <;> exact this
  cases e with
  | normal => exact fin _ (.inl rfl) hq
  | ret => exact fin _ (.inr rfl) hq
  | exit i => exact hq.elim
  | goto l => exact hq.elim
  | panic ch => exact hq.elim
  | outgrown => exact hq.elim
def renH (σ : Nat → Nat) : AH → AH
  | [] => []
  | (b, k) :: H => (σ b, k.map (ABlk.ren σ)) :: renH σ H
def deadH (σ : Nat → Nat) : AH → AH
  | [] => []
  | (b, _) :: H => (σ b, none) :: deadH σ H
def sigM (τ : Nat → Nat) (k nx : Nat) (b : Nat) : Nat := bif b.blt k then τ b else nx + (b - k)
theorem sigM_lt {τ : Nat → Nat} {k nx b : Nat} (h : b < k) : sigM τ k nx b = τ b := by
  unfold sigM; rw [show b.blt k = true from by rw [Nat.blt_eq]; exact h]; rfl
theorem sigM_ge {τ : Nat → Nat} {k nx b : Nat} (h : k ≤ b) : sigM τ k nx b = nx + (b - k) := by
  unfold sigM
  have : b.blt k = false := by
    cases e : b.blt k with
    | false => rfl
    | true => have := ltOf e; omega
  rw [this]; rfl
theorem gt_renH {σ : Nat → Nat} (hσ : ∀ a b, σ a = σ b → a = b) (L : AH) : ∀ (H : AH) (b : Nat), gt (renH σ H ++ L) (σ b) = if b ∈ H.map (·.1) then (gt H b).map (ABlk.ren σ) else gt L (σ b)
  | [], b => by simp [renH]
  | (c, k) :: H, b => by
    simp only [renH, List.cons_append, gt_cons, List.map_cons, List.mem_cons]
    by_cases e : c = b
    · subst e; simp
    · rw [if_neg (fun h => e (hσ _ _ h)), gt_renH hσ L H b]
      have e' : (b = c ∨ b ∈ H.map (·.1)) ↔ b ∈ H.map (·.1) := ⟨fun h => h.elim (fun h => absurd h.symm e) id, .inr⟩
      by_cases h : b ∈ H.map (·.1)
      · rw [if_pos h, if_pos (e'.2 h), if_neg e]
      · rw [if_neg h, if_neg (fun k => h (e'.1 k))]
theorem gt_renH_out {σ : Nat → Nat} (L : AH) : ∀ (H : AH) (m : Nat), (∀ b ∈ H.map (·.1), σ b ≠ m) → gt (renH σ H ++ L) m = gt L m
  | [], m, _ => rfl
  | (c, k) :: H, m, h => by
    simp only [renH, List.cons_append, gt_cons]
    rw [if_neg (h c (by simp))]; exact gt_renH_out L H m fun b hb => h b (by simp only [List.map_cons, List.mem_cons]; exact .inr hb)
theorem gt_deadH {σ : Nat → Nat} (L : AH) : ∀ (H : AH) (m : Nat), gt (deadH σ H ++ L) m = none ∨ (gt (deadH σ H ++ L) m = gt L m ∧ ∀ b ∈ H.map (·.1), σ b ≠ m)
  | [], m => .inr ⟨rfl, by simp⟩
  | (c, k) :: H, m => by
    simp only [deadH, List.cons_append, gt_cons]
    by_cases e : σ c = m
    · rw [if_pos e]; exact .inl rfl
    · rw [if_neg e]
      rcases gt_deadH L H m with h | ⟨h1, h2⟩
      · exact .inl h
      · refine .inr ⟨h1, fun b hb => ?_⟩
        simp only [List.map_cons, List.mem_cons] at hb
        rcases hb with rfl | hb
        · exact e
        · exact h2 b hb
theorem keys_renH {σ : Nat → Nat} : ∀ (H : AH), (renH σ H).map (·.1) = (H.map (·.1)).map σ
  | [] => rfl
  | (c, k) :: H => by simp [renH, keys_renH H]
theorem keys_deadH {σ : Nat → Nat} : ∀ (H : AH), (deadH σ H).map (·.1) = (H.map (·.1)).map σ
  | [] => rfl
  | (c, k) :: H => by simp [deadH, keys_deadH H]
theorem gt_key : ∀ {H : AH} {b : Nat}, gt H b ≠ none → b ∈ H.map (·.1)
  | [], b, h => absurd rfl h
  | (c, k) :: H, b, h => by
    rw [gt_cons] at h
    by_cases e : c = b
    · simp [e]
    · rw [if_neg e] at h; simp only [List.map_cons, List.mem_cons]; exact .inr (gt_key h)
section
variable {C : Ctx} {T : AT} {H : AH} {nx : Nat} {d : Option Tmp} {ty : TypeId} {pos : String} {after : Array Edge} {g : Option (Nat × Bool)}
theorem callM {f : FuncId} {al a0 : List AV} {xl : List Value} {H0 H1 : AH} {k n1 : Nat} {res : AV} (τ : Nat → Nat) (hP : MutP C.P f a0 H0 k res H1 n1)
    (ha : al = renL τ a0) (hba : belbL k a0 = true) (hX : ∀ b q, gt H0 b = some q → gt H (τ b) = some (q.ren τ) ∧ b < k ∧ q.belb k = true) (hi : ∀ b b', b < k → b' < k → τ b = τ b' → b = b') (hlt : ∀ b, b < k → τ b < nx) :
    ∀ (ρ : Env) (Φ : Fz) (w : World), (∀ b, nx ≤ b → b < nx + (n1 - k) → ρ b = none) → Mem C.Wr C.w0 ρ Φ (gt H) w → ConL ρ Φ w al xl →
      Calls C.P f xl.toArray w fun e w' => ∃ y ρ' Φ', e = .returned y ∧ Post C.Wr C.w0 ρ Φ w nx (nx + (n1 - k)) ((renH (sigM τ k nx) H1 ++ deadH (sigM τ k nx) H0).map (·.1)) (gt (renH (sigM τ k nx) H1 ++ deadH (sigM τ k nx) H0 ++ H)) ρ' Φ' w' ∧ Con ρ' Φ' w' (res.ren (sigM τ k nx)) y := fun ρ Φ w h1 h3 hargs => by
  have hσ : ∀ a b, sigM τ k nx a = sigM τ k nx b → a = b := by
    intro a b e
    by_cases ea : a < k
    · by_cases eb : b < k
      · rw [sigM_lt ea, sigM_lt eb] at e; exact hi a b ea eb e
      · rw [sigM_lt ea, sigM_ge (by omega)] at e; have := hlt a ea; omega
    · by_cases eb : b < k
      · rw [sigM_lt eb, sigM_ge (by omega)] at e; have := hlt b eb; omega
      · rw [sigM_ge (by omega), sigM_ge (by omega)] at e; omega
  -- the callee's view
  let ρc : Env := fun b => if b < k then ρ (τ b) else none
  have cle : ∀ b x, b < k → ρ (τ b) = some x → ρc b = some x := fun b x e1 e2 => by show (if b < k then ρ (τ b) else none) = _; rw [if_pos e1]; exact e2
  have cge : ∀ b x, ρc b = some x → b < k ∧ ρ (τ b) = some x := fun b x e => by
    have e : (if b < k then ρ (τ b) else none) = some x := e
    split at e
    · rename_i e1; exact ⟨e1, e⟩
    · cases e
  have hlive0 : ∀ b, gt H0 b ≠ none → b < k ∧ gt H (τ b) ≠ none := fun b hb => by
    cases e : gt H0 b with
    | none => exact absurd e hb
    | some q => exact ⟨(hX b q e).2.1, by rw [(hX b q e).1]; simp⟩
  have hmem : Mem (live H0 ρc) w ρc Φ (gt H0) w := by
    refine ⟨fun b q hb => ?_, fun b b' x x' h4 h5 h6 h7 h8 => ?_, fun b x h4 h5 => h3.free _ x (hlive0 b h4).2 (cge b x h5).2, fun b x h4 h5 => .inl ⟨b, x, h4, h5, rfl⟩, h3.frz, Keeps.refl _ _⟩
    · obtain ⟨b0, b1, b2⟩ := hX b q hb
      obtain ⟨x, o, e4, e5, e6⟩ := h3.at_ _ _ b0
      exact ⟨x, o, cle b x b1 e4, e5, e6.unren cle b2⟩
    · exact hi b b' (hlive0 b h4).1 (hlive0 b' h5).1 (h3.inj _ _ x x' (hlive0 b h4).2 (hlive0 b' h5).2 (cge b x h6).2 (cge b' x' h7).2 h8)
  have hcall := hP ρc Φ w _ (fun b hb => by
    cases e : ρc b with
    | none => exact absurd e hb
    | some x => exact (cge b x e).1) hmem (ConL.unren cle a0 hba (ha ▸ hargs))
  refine hcall.mono ?_
  rintro e w' ⟨y, ρ1, Φ1, rfl, h4, h5, h6, h7, h8, h9, h10, h11⟩
  -- the caller's view, afterwards
  let ρ' : Env := fun m => match ρ m with
    | some z => some z
    | none => if nx ≤ m ∧ m < nx + (n1 - k) then ρ1 (k + (m - nx)) else none
  have le : ρ.le ρ' := fun m z e => by show (match ρ m with | some z => some z | none => _) = _; rw [e]
  have new : ∀ m, ρ m = none → ρ' m = if nx ≤ m ∧ m < nx + (n1 - k) then ρ1 (k + (m - nx)) else none := fun m e => by show (match ρ m with | some z => some z | none => _) = _; rw [e]
  have up : ∀ b z, ρ1 b = some z → ρ' (sigM τ k nx b) = some z := fun b z e => by
    by_cases eb : b < k
    · rw [sigM_lt eb]
      have e5 := h7 b eb
      rw [e] at e5
      exact le _ _ (cge b z e5.symm).2
    · have hb1 := h6 b (by rw [e]; simp)
      rw [sigM_ge (by omega)]
      have e5 := h1 (nx + (b - k)) (by omega) (by omega)
      rw [new _ e5, if_pos ⟨by omega, by omega⟩, show k + (nx + (b - k) - nx) = b by omega]; exact e
  have hmods : (renH (sigM τ k nx) H1 ++ deadH (sigM τ k nx) H0).map (·.1) = (H1.map (·.1)).map (sigM τ k nx) ++ (H0.map (·.1)).map (sigM τ k nx) := by rw [List.map_append, keys_renH, keys_deadH]
  have himg : ∀ r, live H0 ρc r → img ρ ((renH (sigM τ k nx) H1 ++ deadH (sigM τ k nx) H0).map (·.1)) r ∧ (C.Wr r ∨ C.w0.heap.size ≤ r) := by
    rintro r ⟨b, x, e4, e5, rfl⟩
    obtain ⟨e6, e7⟩ := cge b x e5
    refine ⟨⟨τ b, ?_, x, e7, rfl⟩, h3.own _ x (hlive0 b e4).2 e7⟩
    rw [hmods]; exact List.mem_append_right _ (List.mem_map.2 ⟨b, gt_key e4, sigM_lt e6⟩)
  have nl : ∀ r, Φ r → ¬ live H0 ρc r := fun r hr ⟨b, x, e4, e5, e6⟩ => h3.free _ x (hlive0 b e4).2 (cge b x e5).2 (e6 ▸ hr)
  have stab : ∀ r, Φ r → w'.heap[r]? = w.heap[r]? := fun r hr => h8.keep.block r (h3.frz r hr) (nl r hr)
  -- which blocks there are
  have hcase : ∀ m q, gt (renH (sigM τ k nx) H1 ++ deadH (sigM τ k nx) H0 ++ H) m = some q → (∃ b q1, sigM τ k nx b = m ∧ gt H1 b = some q1 ∧ q = q1.ren (sigM τ k nx)) ∨ (gt H m = some q ∧ ∀ b, gt H0 b ≠ none → τ b ≠ m) := by
    intro m q hq
    rw [List.append_assoc] at hq
    by_cases e : ∃ b ∈ H1.map (·.1), sigM τ k nx b = m
    · obtain ⟨b, hb, rfl⟩ := e
      rw [gt_renH hσ, if_pos hb] at hq
      cases e5 : gt H1 b with
      | none => rw [e5] at hq; cases hq
      | some q1 => rw [e5] at hq; cases hq; exact .inl ⟨b, q1, rfl, e5, rfl⟩
    · rw [gt_renH_out _ _ _ (fun b hb e5 => e ⟨b, hb, e5⟩)] at hq
      rcases gt_deadH (σ := sigM τ k nx) H H0 m with e4 | ⟨e4, e5⟩
      · rw [e4] at hq; cases hq
      · rw [e4] at hq
        exact .inr ⟨hq, fun b hb e6 => e5 b (gt_key hb) (by rw [sigM_lt (hlive0 b hb).1]; exact e6)⟩
  have hcase' : ∀ m, gt (renH (sigM τ k nx) H1 ++ deadH (sigM τ k nx) H0 ++ H) m ≠ none → (∃ b, sigM τ k nx b = m ∧ gt H1 b ≠ none) ∨ (gt H m ≠ none ∧ ∀ b, gt H0 b ≠ none → τ b ≠ m) := by
    intro m hm
    cases e : gt (renH (sigM τ k nx) H1 ++ deadH (sigM τ k nx) H0 ++ H) m with
    | none => exact absurd e hm
    | some q =>
      rcases hcase m q e with ⟨b, q1, e5, e6, _⟩ | ⟨e5, e6⟩
      · exact .inl ⟨b, e5, by rw [e6]; simp⟩
      · exact .inr ⟨by rw [e5]; simp, e6⟩
  have callee : ∀ b z, gt H1 b ≠ none → ρ' (sigM τ k nx b) = some z → ρ1 b = some z := fun b z e4 e5 => by
    cases e6 : gt H1 b with
    | none => exact absurd e6 e4
    | some q =>
      obtain ⟨x, o, e7, _⟩ := h8.at_ b q e6
      rw [up b x e7] at e5; cases e5; exact e7
  have old : ∀ m z, gt H m ≠ none → ρ' m = some z → ρ m = some z ∧ z.1 < w.heap.size := fun m z e4 e5 => by
    cases e6 : gt H m with
    | none => exact absurd e6 e4
    | some q =>
      obtain ⟨x, o, e7, e8, _⟩ := h3.at_ m q e6
      rw [le _ _ e7] at e5; cases e5; exact ⟨e7, (Array.getElem?_eq_some_iff.1 e8).1⟩
  have oldnl : ∀ m z, gt H m ≠ none → (∀ b, gt H0 b ≠ none → τ b ≠ m) → ρ m = some z → ¬ live H0 ρc z.1 := fun m z e4 e5 e6 ⟨b, x, e7, e8, e9⟩ =>
    e5 b e7 (h3.inj _ _ x z (hlive0 b e7).2 e4 (cge b x e8).2 e6 e9)
  refine ⟨y, ρ', Φ1, rfl, ⟨le, fun b hb => ?_, h9, fun r hr => (h10 r hr).imp id (Or.imp id (himg r)), h8.keep.mono fun r _ hr => (himg r hr).1, stab, fun b z e0 e1 e2 => ?_, ⟨fun m q hq => ?_, fun m m' z z' e4 e5 e6 e7 e8 => ?_, fun m z e4 e5 => ?_, fun m z e4 e5 => ?_, h8.frz, ?_⟩, h11⟩, Con.ren up res h4⟩
  · cases e : ρ b with
    | some z => exact .inl (by simp)
    | none =>
      rw [new b e] at hb
      split at hb
      · rename_i hh; exact .inr hh
      · exact absurd rfl hb
  · rcases hcase' b e0 with ⟨c, e4, e5⟩ | ⟨e4, _⟩
    · subst e4
      have e6 := callee c z e5 e2
      rcases h8.own c z e5 e6 with e7 | e7
      · exact .inr (himg _ e7).1
      · exact .inl e7
    · have := (old b z e4 e2).1; rw [e1] at this; cases this
  · rcases hcase m q hq with ⟨b, q1, rfl, e5, rfl⟩ | ⟨e4, e5⟩
    · obtain ⟨z, o, e6, e7, e8⟩ := h8.at_ b q1 e5
      exact ⟨z, o, up b z e6, e7, e8.ren up⟩
    · obtain ⟨z, o, e6, e7, e8⟩ := h3.at_ m q e4
      have hl := (Array.getElem?_eq_some_iff.1 e7).1
      exact ⟨z, o, le _ _ e6, (h8.keep.block _ hl (oldnl m z (by rw [e4]; simp) e5 e6)).trans e7, e8.mono le h9 stab⟩
  · rcases hcase' m e4 with ⟨b, rfl, f1⟩ | ⟨f1, f2⟩
    · have g1 := callee b z f1 e6
      rcases hcase' m' e5 with ⟨b', rfl, f1'⟩ | ⟨f1', f2'⟩
      · rw [h8.inj b b' z z' f1 f1' g1 (callee b' z' f1' e7) e8]
      · exfalso
        obtain ⟨g2, g3⟩ := old m' z' f1' e7
        rcases h8.own b z f1 g1 with g4 | g4
        · exact oldnl m' z' f1' f2' g2 (e8 ▸ g4)
        · omega
    · obtain ⟨g2, g3⟩ := old m z f1 e6
      rcases hcase' m' e5 with ⟨b', rfl, f1'⟩ | ⟨f1', f2'⟩
      · exfalso
        rcases h8.own b' z' f1' (callee b' z' f1' e7) with g4 | g4
        · exact oldnl m z f1 f2 g2 (e8.symm ▸ g4)
        · omega
      · exact h3.inj m m' z z' f1 f1' g2 (old m' z' f1' e7).1 e8
  · rcases hcase' m e4 with ⟨b, rfl, f1⟩ | ⟨f1, f2⟩
    · exact h8.free b z f1 (callee b z f1 e5)
    · obtain ⟨g2, g3⟩ := old m z f1 e5
      intro hf
      rcases h10 _ hf with g4 | g4 | g4
      · exact h3.free m z f1 g2 g4
      · omega
      · exact oldnl m z f1 f2 g2 g4
  · rcases hcase' m e4 with ⟨b, rfl, f1⟩ | ⟨f1, f2⟩
    · rcases h8.own b z f1 (callee b z f1 e5) with g4 | g4
      · exact (himg _ g4).2
      · exact .inr (Nat.le_trans h3.keep.size g4)
    · exact h3.own m z f1 (old m z f1 e5).1
  · refine ⟨h8.keep.os.trans h3.keep.os, h8.keep.tape.trans h3.keep.tape, h8.keep.output.trans h3.keep.output, Nat.le_trans h3.keep.size h8.keep.size, fun r hr hn => (h8.keep.block r (Nat.lt_of_lt_of_le hr h3.keep.size) fun hl => ?_).trans (h3.keep.block r hr hn)⟩
    rcases (himg r hl).2 with g4 | g4
    · exact hn g4
    · omega
end
end Go.AE
end

section
namespace Go.AE
open Go.RowKit
def _root_.Go.Code.ps : Code → Array Tmp
  | .rangeFunc _ p _ _ => p
  | _ => #[]
theorem tag_range {c : Code} (h : c.tag = 7) : c = .rangeFunc c.c c.ps c.l c.r := by
  cases c
  case rangeFunc => rfl
  case region i o d => cases d <;> cases h
  all_goals cases h
theorem Mem.rebase {Wr : Nat → Prop} {w0 w w2 : World} {ρ ρ2 : Env} {Φ Φ2 : Fz} {H : AH} {G2 : Nat → Option ABlk} (h : Mem Wr w0 ρ Φ (gt H) w) (k : Mem (live H ρ) w ρ2 Φ2 G2 w2) : Mem Wr w0 ρ2 Φ2 G2 w2 := by
  have hl : ∀ r, live H ρ r → Wr r ∨ w0.heap.size ≤ r := by
    rintro r ⟨b, x, e4, e5, rfl⟩; exact h.own b x e4 e5
  refine ⟨k.at_, k.inj, k.free, fun b x h1 h2 => ?_, k.frz, k.keep.os.trans h.keep.os, k.keep.tape.trans h.keep.tape, k.keep.output.trans h.keep.output, Nat.le_trans h.keep.size k.keep.size, fun r hr hn => (k.keep.block r (Nat.lt_of_lt_of_le hr h.keep.size) fun hh => ?_).trans (h.keep.block r hr hn)⟩
  · rcases k.own b x h1 h2 with g4 | g4
    · exact hl _ g4
    · exact .inr (Nat.le_trans h.keep.size g4)
  · rcases hl r hh with g4 | g4
    · exact hn g4
    · omega
theorem Mem.start {Wr : Nat → Prop} {w0 w : World} {ρ : Env} {Φ : Fz} {H : AH} (h : Mem Wr w0 ρ Φ (gt H) w) : Mem (live H ρ) w ρ Φ (gt H) w :=
  ⟨h.at_, h.inj, h.free, fun b x h1 h2 => .inl ⟨b, x, h1, h2, rfl⟩, h.frz, Keeps.refl _ _⟩
abbrev Ctx.rnd (C : Ctx) (H : AH) (ρ : Env) (Φ : Fz) (w : World) (nx l nt : Nat) : Ctx := ⟨C.P, w, live H ρ, Φ, some l, nt, nx, ρ⟩
section
variable {C : Ctx} {T : AT} {H : AH} {nx : Nat} {df : List Nat} {ρ : Env} {Φ : Fz} {a : Act} {w : World}
theorem Conc.back {l nt : Nat} {T2 : AT} {H2 : AH} {nx2 : Nat} {df2 : List Nat} {ρ2 : Env} {Φ2 : Fz} {a2 : Act} {w2 : World} (h : Conc C ⟨T, H, nx, df⟩ ρ Φ a w) (k : Conc (C.rnd H ρ Φ w nx l nt) ⟨T2, H2, nx2, df2⟩ ρ2 Φ2 a2 w2) : Conc C ⟨T, H2, nx2, df⟩ ρ2 Φ2 a w2 := by
  have le : ρ.le ρ2 := fun b x e => (k.base b (h.dom b (by rw [e]; simp))).trans e
  have nl : ∀ r, Φ r → ¬ live H ρ r := fun r hr ⟨b, x, e4, e5, e6⟩ => h.mem.free b x e4 e5 (e6 ▸ hr)
  have stab : ∀ r, Φ r → w2.heap[r]? = w.heap[r]? := fun r hr => k.mem.keep.block r (h.mem.frz r hr) (nl r hr)
  refine ⟨k.dom, h.tm.mono le k.fz.2 stab, h.mem.rebase k.mem, h.df.mono k.dk, ⟨fun r hr => ?_, Fz.le_trans h.fz.2 k.fz.2⟩, fun b h1 => (k.base b (Nat.lt_of_lt_of_le h1 h.kn)).trans (h.base b h1), Nat.le_trans h.kn k.kn, h.dk.trans k.dk⟩
  rcases k.fz.1 r hr with g | g | g
  · exact h.fz.1 r g
  · exact .inr (.inl (Nat.le_trans h.mem.keep.size g))
  · obtain ⟨b, x, e1, e2, rfl⟩ := g; exact .inr (h.mem.own b x e1 e2).symm
theorem Conc.setB {b : Nat} {k k' : ABlk} {o : Obj} {w' : World} (h : Conc C ⟨T, H, nx, df⟩ ρ Φ a w) (hg : gt H b = some k) {x : Nat × Nat × Nat} (hx : ρ b = some x) (hw : OneNew w w' x.1 o) (hk : BlkAt ρ Φ w x k' o) : Conc C ⟨T, (b, some k') :: H, nx, df⟩ ρ Φ a w' := by
  have hp := Post.set h.mem nx hg hx hw hk
  rw [← gt_upG] at hp
  exact Conc.step (s := ⟨T, H, nx, df⟩) (ups := [(b, some k')]) (v := .tup []) (x := undef) (d := none) h hp (by simp [Con, undef, ConL]) rfl (Nat.le_refl _)
theorem oneNew_put {w : World} {r : Nat} {o o' : Obj} (h : w.heap[r]? = some o') : OneNew w (w.putObj r o) r o :=
  ⟨rfl, rfl, rfl, by simp, World.putObj_heap_same (Array.getElem?_eq_some_iff.1 h).1, fun i hi => World.putObj_heap_other hi⟩
def zipT : List Tmp → List AV → AT → AT
  | p :: ps, v :: vs, T => zipT ps vs ((p, v) :: T)
  | _, _, T => T
theorem zipT_at {nt : Nat} : ∀ {ps : List Tmp} {vs : List AV} {xs : List Value} {T : AT} {tmps : Array Value}, (∀ p ∈ ps, p < nt) → ConL ρ Φ w vs xs → TmpsAt ρ Φ w T nt tmps →
    TmpsAt ρ Φ w (zipT ps vs T) nt ((ps.zip xs).foldl (fun t (p : Tmp × Value) => t.setIfInBounds p.1 p.2) tmps)
  | [], _, _, _, _, _, _, h => by simpa [zipT] using h
  | _ :: _, [], _, _, _, _, hc, h => by simp only [ConL] at hc; subst hc; simpa [zipT] using h
  | p :: ps, v :: vs, _, T, tmps, hp, hc, h => by
    obtain ⟨y, ys, rfl, h1, h2⟩ := conL_inv hc
    simp only [zipT, List.zip_cons_cons, List.foldl_cons]
    refine zipT_at (fun q hq => hp q (by simp [hq])) h2 ?_
    have := TmpsAt.put (a := { tmps := tmps, defers := [] }) h (d := some p) h1 (by simpa using hp p (by simp))
    simpa [putT, Act.put] using this
def Round (C : Ctx) (l : Nat) (p : Option Code) (Tr : AT) (ntr : Nat) (ps : Array Tmp) (assign body : Code) (d : Nat) (N : Bool → Option Code → AH → Nat → Prop) (T0 : AT) (H : AH) (nx : Nat) : Prop :=
  ∀ ρ Φ w lc, WpA (C.rnd H ρ Φ w nx lc ntr) assign
    (thenQ (fun s1 => gt s1.H l = some (.loop .ready p Tr ntr ps assign body d) ∧
        WpA (C.rnd H ρ Φ w nx lc ntr) body (fun e s2 => gt s2.H l = some (.loop .busy p Tr ntr ps assign body d) ∧
          match e with
          | .normal => N true none s2.H s2.nx
          | .ret => N false (some .ret) s2.H s2.nx
          | .exit i => N false (some (.exit i)) s2.H s2.nx
          | .goto i => N false (some (.goto i)) s2.H s2.nx
          | _ => False) ⟨s1.T, (l, some (.loop .busy p Tr ntr ps assign body d)) :: s1.H, s1.nx, s1.df⟩)
      (fun _ _ => False)) ⟨T0, H, nx, []⟩
theorem Ryield {ops : Array Oper} {i : Nat} {K : St → Prop} {o : Oper} {x : Operand} {args : Array Operand} {ts : Array TypeId} {vs : List AV} {l t ntr d : Nat} {p : Option Code} {Tr : AT} {ps : Array Tmp} {assign body : Code} {c : Bool}
    (ho : nth ops.toList i = some o) (hg : wantedA ops.toList T o = some c) (hc : c = true) (hop : o.op = .call ⟨.value x, args, ts⟩) (hx : ev T x = some (.yld l)) (hv : evL T args.toList = some vs) (hl : gt H l = some (.loop .ready p Tr ntr ps assign body d))
    (hsz : vs.length = ps.toList.length) (hps : ps.toList.all (·.blt ntr) = true) (hd : o.dst = some t) (ht : t.blt C.nt = true)
    (hr : Round C l p Tr ntr ps assign body d (fun b j H2 nx2 => Reg C ops (i + 1) K ⟨(t, .bool b) :: T, (l, some (.loop (if b then .ready else .done) j Tr ntr ps assign body d)) :: H2, nx2, df⟩) (zipT ps.toList vs Tr) H nx) :
    Reg C ops i K ⟨T, H, nx, df⟩ := fun ρ Φ a w hcc Q hQ => by
  obtain ⟨h1, h2⟩ := range_at ho
  rw [h2]
  simp only [wpOpsIn, h1]
  rw [wantedA_eq hcc.tm hg, hc, if_pos rfl]
  have e1 := ev_con hcc.tm hx
  simp only [Con] at e1
  obtain ⟨y, e2, e3⟩ := e1
  obtain ⟨y', ob, e4, e5, fn, tmps, z, e6, e7, rfl⟩ := hcc.mem.at_ l _ hl
  rw [e2] at e4; cases e4
  have hvs := evL_con hcc.tm hv
  have hlen := conL_len hvs
  have hrun : (execOp a.eval o).run C.P w = .ok (.round y.1 fn ((ps.zip (args.map a.eval)).foldl (fun tmps (t, a) => tmps.setIfInBounds t a) tmps) assign body) w := by
    have := run_yield (P := C.P) (args := args.map a.eval) e5 (by simp at hlen hsz ⊢; omega)
    unfold execOp; rw [hop]
    simp only [resolve, e3, Deferred.ofValue, Sem.run_bind, Sem.run_pure, Result.andThen_ok, invoke]
    simpa using this
  refine ⟨fun _ _ => trivial, ?_⟩
  rw [Oper.semAt_eq _ _ _ (by intro c; rw [hop]; simp), hrun, Oper.uponIn_round]
  refine ⟨fun h => by simp [Ctx.F, Fence.wide] at h, ?_⟩
  -- the round
  have hr0 := hr ρ Φ w y.1
  have hconc : Conc (C.rnd H ρ Φ w nx y.1 ntr) ⟨zipT ps.toList vs Tr, H, nx, []⟩ ρ Φ { tmps := (ps.zip (args.map a.eval)).foldl (fun tmps (t, a) => tmps.setIfInBounds t a) tmps, defers := [] } w := by
    refine ⟨hcc.dom, ?_, hcc.mem.start, Coll.nil _ _ _, ⟨fun _ h => .inl h, Fz.le_refl _⟩, fun _ _ => rfl, Nat.le_refl _, Dk.refl _ _⟩
    have := zipT_at (fun q hq => ltOf (List.all_eq_true.1 hps q hq)) hvs e7
    have e8 : (ps.zip (args.map a.eval)).foldl (fun tmps (t, a) => tmps.setIfInBounds t a) tmps = (ps.toList.zip (args.toList.map a.eval)).foldl (fun t (p : Tmp × Value) => t.setIfInBounds p.1 p.2) tmps := by
      rw [← Array.foldl_toList, Array.toList_zip, Array.toList_map]
    rw [e8]; exact this
  refine roundIn_of_wpIn (l := y.1) trivial ?_
  have hw := hr0 ρ Φ _ w hconc
  refine wpIn_mono hw ?_
  rintro e a1 w1 ⟨s1, ρ1, Φ1, hq, hc1⟩
  cases e with
  | normal =>
    obtain ⟨hl1, hb⟩ := hq
    obtain ⟨y1, ob1, f1, f2, fn1, tmps1, z1, f3, f4, rfl⟩ := hc1.mem.at_ l _ hl1
    have fy : y1 = y := by
      have := (hc1.base l (hcc.dom l (by rw [e2]; simp))).trans e2
      rw [f1] at this; cases this; rfl
    subst fy
    have hbeg := run_beginRound (P := C.P) f2 rfl
    refine ⟨_, hbeg, ?_⟩
    have hc2 : Conc (C.rnd H ρ Φ w nx y1.1 ntr) ⟨s1.T, (l, some (.loop .busy p Tr ntr ps assign body d)) :: s1.H, s1.nx, s1.df⟩ ρ1 Φ1 a1 _ := Conc.setB (T := s1.T) hc1 hl1 f1 (oneNew_put f2) ⟨fn1, tmps1, z1, f3, f4, rfl⟩
    refine wpIn_mono (hb ρ1 Φ1 a1 _ hc2) ?_
    rintro e2' a2 w2 ⟨s2, ρ2, Φ2, ⟨hl2, hN⟩, hc3⟩
    obtain ⟨y2, ob2, g1, g2, fn2, tmps2, z2, g3, g4, rfl⟩ := hc3.mem.at_ l _ hl2
    have gy : y2 = y1 := by
      have := (hc3.base l (hcc.dom l (by rw [e2]; simp))).trans e2
      rw [g1] at this; cases this; rfl
    subst gy
    have fin : ∀ (j : Option Code), Reg C ops (i + 1) K ⟨(t, .bool j.isNone) :: T, (l, some (.loop (if j.isNone then .ready else .done) j Tr ntr ps assign body d)) :: s2.H, s2.nx, df⟩ →
        ∃ v w', (Instr.endRound y2.1 j).run C.P w2 = .ok v w' ∧ wpOpsIn C.F 0 C.P ops Q (List.range' (i + 1) (ops.size - (i + 1))) (a.put o.dst v) w' := fun j hreg => by
      refine ⟨_, _, run_endRound (P := C.P) j g2, ?_⟩
      have hc4 : Conc (C.rnd H ρ Φ w nx y2.1 ntr) ⟨s2.T, (l, some (.loop (if j.isNone then .ready else .done) j Tr ntr ps assign body d)) :: s2.H, s2.nx, s2.df⟩ ρ2 Φ2 a2 _ := Conc.setB (T := s2.T) hc3 hl2 g1 (oneNew_put g2) ⟨fn2, tmps2, z2, g3, g4, rfl⟩
      have hc5 := hcc.back hc4
      refine hreg ρ2 Φ2 _ _ ?_ Q hQ
      rw [hd]
      refine ⟨hc5.dom, hc5.tm.put (d := some t) mk_bool (by simpa using ltOf ht), hc5.mem, by rw [put_defers]; exact hc5.df, hc5.fz, hc5.base, hc5.kn, hc5.dk⟩
    cases e2' with
    | normal => exact fin none hN
    | ret => exact fin (some .ret) hN
    | exit i => exact fin (some (.exit i)) hN
    | goto i => exact fin (some (.goto i)) hN
    | panic ch => exact hN.elim
    | outgrown => exact hN.elim
  | ret => exact hq.elim
  | exit i => exact hq.elim
  | goto i => exact hq.elim
  | panic ch => exact hq.elim
  | outgrown => exact hq.elim
end
end Go.AE
end
section
namespace Go.AE
theorem J {α : Sort _} {a : α} : a = a := rfl
theorem Wsr {C : Ctx} {c : Code} {Q : Exit → St → Prop} {s : St} (h : c.tag = 3) (h2 : c.l.tag = 1) (k : Reg C c.l.ops 0 (fun s' => thenQ (WpA C c.r Q) Q .normal s') s) : WpA C c Q s := W_seq h (W_reg h2 k)
theorem Rt {C : Ctx} {ops : Array Oper} {i : Nat} {N : St → Prop} {Q : Exit → St → Prop} {T : AT} {H : AH} {nx : Nat} {df : List Nat} (hi : nth ops.toList i = none) (h : N ⟨T, H, nx, df⟩) : Reg C ops i (fun s' => thenQ N Q .normal s') ⟨T, H, nx, df⟩ := Re hi (thenQ_n h)
end Go.AE
end
