import Derived.Test.YthoodfiacfmhgaaM11
import Derived.Test.YthoodfiacfmhgaaM13
set_option linter.all false
section
/- Abstract states, thirty-sixth part: calls that hand out what is new. -/
namespace Go.AE
open Go.RowKit
/-- A function of data whose answer names nothing that was there before. -/
def PureF (P : Program) (f : FuncId) (args : List AV) (res : AV) : Prop :=
  ∀ (Φ : Fz) (w : World) (xs : List Value), (∀ r, Φ r → r < w.heap.size) → ConL Env.nil Φ w args xs → Calls P f xs.toArray w fun e w' => ∃ (x : Value) (Φn : Fz), e = .returned x ∧ Con Env.nil Φn w' res x ∧ Below w.heap.size w w' ∧ ∀ r, Φn r → w.heap.size ≤ r ∧ r < w'.heap.size
theorem ConL.plain' {ρ ρ' : Env} {Φ Φ' : Fz} {w w' : World} : ∀ (l : List AV) {xs : List Value}, plainL l = true → ConL ρ Φ w l xs → ConL ρ' Φ' w' l xs
  | [], _, _, h => by simpa only [ConL] using h
  | v :: l, _, hp, h => by
    simp only [plainL, Bool.and_eq_true] at hp
    obtain ⟨y, ys, rfl, h1, h2⟩ := conL_inv h
    exact conL_cons (Con.plain _ hp.1 h1) (ConL.plain' l hp.2 h2)
/-- A function that hands out a list of its own. -/
theorem pureF_of_mut {P : Program} {f : FuncId} {args : List AV} {p0 p1 : AV} {cs : List AV} {t : TypeId} {n n1 : Nat} {H1 : AH} (h : MutP P f args [] 0 (.tup [.agg [p0, .out 0 n 1], p1]) H1 n1) (hH : gt H1 0 = outB cs t n) (h0 : p0.plain = true) (h1 : p1.plain = true) (hc : plainL cs = true) (hd : dataL cs) (hn : 0 < n) : PureF P f args (.tup [.agg [p0, .ros cs n none], p1]) := by
  intro Φ w xs hfz hargs
  have hlv : ∀ r, ¬ live [] Env.nil r := fun r ⟨b, _, hb, _⟩ => hb rfl
  have hm : Mem (live [] Env.nil) w Env.nil Φ (gt []) w := ⟨(fun b k hb => by cases hb), (fun b _ _ _ hb => absurd rfl hb), (fun b _ hb => absurd rfl hb), (fun b _ hb => absurd rfl hb), hfz, Keeps.refl _ _⟩
  refine (h Env.nil Φ w xs (fun b hb => absurd rfl hb) hm hargs).mono ?_
  rintro e w' ⟨x, ρ', Φ', rfl, hx, _, _, _, hmem, hle, hnew, hdk⟩
  obtain ⟨m, rfl⟩ : ∃ m, n = m + 1 := ⟨n - 1, by omega⟩
  have hg : gt H1 0 = some (.cells cs t) := hH
  obtain ⟨x1, o1, e1, e2, pre, ys, rest, e3, e4, e5, e6⟩ := hmem.at_ 0 _ hg
  have hk := hmem.keep
  have hb : Below w.heap.size w w' := ⟨hk.os, hk.tape, hk.output, hk.size, fun r hr => hk.block r hr (hlv r)⟩
  have hown := (hmem.own 0 x1 (by rw [hg]; simp) e1).resolve_left (hlv _)
  have hat : At w' x1.1 x1.2.1 ys := e4 ▸ at_of_cells (e6 ▸ e2)
  have hlt : x1.1 < w'.heap.size := hmem.lt (by rw [hg]; simp) e1
  simp only [Con] at hx
  obtain ⟨l, hl, rfl⟩ := hx
  obtain ⟨y1, l2, rfl, c1, c2⟩ := conL_inv hl
  obtain ⟨y2, l3, rfl, c3, c4⟩ := conL_inv c2
  simp only [ConL] at c4
  subst c4
  simp only [Con] at c1
  obtain ⟨a, ca, rfl⟩ := c1
  obtain ⟨z1, a2, rfl, d1, d2⟩ := conL_inv ca
  obtain ⟨z2, a3, rfl, d3, d4⟩ := conL_inv d2
  simp only [ConL] at d4
  subst d4
  simp only [Con] at d3
  obtain ⟨y, k, f1, f2, f3, f4⟩ := (d3.resolve_left fun h => Nat.succ_ne_zero _ h.1).2
  rw [e1] at f1
  cases f1
  refine ⟨_, fun r => r = x1.1, rfl, ?_, hb, fun r hr => by rw [hr]; exact ⟨hown, hlt⟩⟩
  simp only [Con]
  refine ⟨_, conL_cons ?_ (conL_cons (Con.plain _ h1 c3) conL_nil), rfl⟩
  simp only [Con]
  refine ⟨_, conL_cons (Con.plain _ h0 d1) (conL_cons ?_ conL_nil), rfl⟩
  simp only [Con]
  exact .inr ⟨x1.1, x1.2.1 + 0, ys, k, rfl, f4, f2, (fun m hm => by cases hm), ConL.plain' _ hc e3, by rw [Nat.add_zero]; exact hat, hd⟩
section
variable {C : Ctx} {T : AT} {H : AH} {nx : Nat} {d : Option Tmp} {ty : TypeId} {pos : String} {after : Array Edge} {g : Option (Nat × Bool)}
/-- Such a call, of blocks of one's own, to read. -/
theorem U_callF {x : Operand} {args : Array Operand} {ts : Array TypeId} {f : FuncId} {fi ca vs : List AV} {res : AV} {T' : AT} {H' : AH} [hf : FnOk C.P f] (hz : Frz C T H T' H') (hx : ev T' x = some (.fn f fi ca)) (hv : evL T' args.toList = some vs) (hP : PureF C.P f (fi ++ vs ++ ca) res) (hd : dataL (fi ++ vs ++ ca)) :
    OpU C ⟨d, .call ⟨.value x, args, ts⟩, ty, pos, after, g⟩ T H nx res [] nx := fun ρ Φ a w h1 h2 h3 K Q k => by
  obtain ⟨Φ2, q1, q2, q3, _⟩ := hz ρ Φ a.tmps w h2 h3
  have hc := ev_con q2 hx
  simp only [Con] at hc
  obtain ⟨xs, ys, e1, e2, e3⟩ := hc
  have e4 := evL_con q2 hv
  have hargs : ConL ρ Φ2 w (fi ++ vs ++ ca) (xs ++ args.toList.map a.eval ++ ys) := conL_append (conL_append e1 e4) e2
  have hcall := hP Φ2 w _ q3.frz (ConL.data _ hd hargs)
  have hrun : (execOp a.eval ⟨d, .call ⟨.value x, args, ts⟩, ty, pos, after, g⟩).run C.P w = .ok (.enter f (xs ++ args.toList.map a.eval ++ ys).toArray) w := by
    simp only [execOp, resolve, e3, Deferred.ofValue, Sem.run_bind, Sem.run_pure, Result.andThen_ok, invoke]
    rw [hf.run]
    simp [← Array.toList_map]
  refine ⟨fun _ _ => trivial, ?_⟩
  rw [Oper.semAt_eq _ _ _ (by intro c; simp), hrun]
  refine ⟨fun _ => by simp_all [Ctx.F, Fence.wide], (callsIn_of 0 hcall).mono ?_⟩
  rintro e w' ⟨y, Φn, rfl, h4, h5, h6⟩
  exact k ρ (fun r => Φ r ∨ Φn r) y w' (Post.later h3 nx h5 (fun _ h => .inl h) (fun r hr => hr.imp id fun h => (h6 r h).1) fun r hr => hr.elim (fun h => Nat.lt_of_lt_of_le (h3.frz r h) h5.size) fun h => (h6 r h).2) (Con.mono (Env.nil_le ρ) (fun _ h => .inr h) (fun _ _ => rfl) _ h4)
end
end Go.AE
end

section
/- All plates of a size, one after another: plain laws. -/
namespace Go.Proofs.Ythoodfiacfmhgaa
set_option maxRecDepth 20000
open Go.AE
/-- The next plate, from the last dot on. -/
def incR (a : Int) : List Int → Option (List Int)
  | [] => none
  | x :: t => if x = a - 1 then (incR a t).map fun r => 0 :: r else some ((x + 1) :: t)
def sucL (a : Int) (d : List Int) : Option (List Int) := (incR a d.reverse).map List.reverse
theorem inc_zero {a : Int} {d : List Int} {m k : Nat} (hm : m < d.length) (hd : d[m] = a - 1) (h : incR a d.reverse = (incR a (d.take (m + 1)).reverse).map fun r => List.replicate k 0 ++ r) : incR a d.reverse = (incR a (d.take m).reverse).map fun r => List.replicate (k + 1) 0 ++ r := by
  rw [h, List.take_succ_eq_append_getElem hm, List.reverse_append, List.reverse_cons, List.reverse_nil, List.nil_append, List.singleton_append, incR, if_pos hd, Option.map_map]
  congr 1
  funext r
  simp [List.replicate_succ']
theorem set_at {p t : List Int} {x v : Int} {m : Nat} (h : p.length = m) : (p ++ ([x] ++ t)).set m v = p ++ (v :: t) := by
  subst h; simp
theorem set_zero {d : List Int} {m k : Nat} (hm : m < d.length) : (d.take (m + 1) ++ List.replicate k 0).set m 0 = d.take m ++ List.replicate (k + 1) 0 := by
  rw [List.take_succ_eq_append_getElem hm, List.append_assoc]
  have h : (d.take m).length = m := by rw [List.length_take]; omega
  rw [set_at h, List.replicate_succ]
theorem inc_end {a : Int} {d : List Int} {k : Nat} (h : incR a d.reverse = (incR a (d.take 0).reverse).map fun r => List.replicate k 0 ++ r) : sucL a d = none := by
  rw [sucL, h]; rfl
theorem inc_some {a : Int} {d : List Int} {m k : Nat} (hm : m < d.length) (hd : d[m] ≠ a - 1) (h : incR a d.reverse = (incR a (d.take (m + 1)).reverse).map fun r => List.replicate k 0 ++ r) : sucL a d = some ((d.take (m + 1) ++ List.replicate k 0).set m (d[m] + 1)) := by
  rw [sucL, h, List.take_succ_eq_append_getElem hm, List.reverse_append, List.reverse_cons, List.reverse_nil, List.nil_append, List.singleton_append, incR, if_neg hd]
  simp only [Option.map_some, Option.some.injEq]
  have h2 : (d.take m).length = m := by rw [List.length_take]; omega
  rw [List.append_assoc, set_at h2]
  simp
theorem get_pre {d : List Int} {m k : Nat} (hm : m < d.length) (h : m < (d.take (m + 1) ++ List.replicate k (0 : Int)).length) : (d.take (m + 1) ++ List.replicate k (0 : Int))[m] = d[m] := by
  rw [List.getElem_append_left (by rw [List.length_take]; omega), List.getElem_take]
/-- All lists of so many numbers. -/
def digN (a : Nat) : Nat → List (List Nat)
  | 0 => [[]]
  | k + 1 => (List.range a).flatMap fun x => (digN a k).map fun l => x :: l
def toI (l : List Nat) : List Int := l.map fun (n : Nat) => (n : Int)
def allD (N a : Nat) : List (List Int) := (digN a (N * N)).map toI
/-- The sizes and numbers of classes that are looked at. -/
def fewP : List (Nat × Nat) := [(1, 1), (1, 2), (1, 3), (1, 4), (2, 1), (2, 2), (2, 3), (2, 4), (3, 1), (3, 2)]
def incN (a : Nat) : List Nat → Option (List Nat)
  | [] => none
  | x :: t => if x + 1 = a then (incN a t).map fun r => 0 :: r else some ((x + 1) :: t)
def sucN (a : Nat) (d : List Nat) : Option (List Nat) := (incN a d.reverse).map List.reverse
def chnN (a : Nat) : List (List Nat) → Bool
  | [] => true
  | [d] => (sucN a d).isNone
  | d :: e :: l => (sucN a d == some e) && chnN a (e :: l)
theorem chn_all : (fewP.all fun q => chnN q.2 (digN q.2 (q.1 * q.1)) && (digN q.2 (q.1 * q.1)).all fun d => Nat.beq d.length (q.1 * q.1) && d.all fun x => Nat.blt x q.2) = true := by decide +kernel
end Go.Proofs.Ythoodfiacfmhgaa
end

section
/- How many plates are their own least forms: plain laws. -/
namespace Go.Proofs.Ythoodfiacfmhgaa
set_option maxRecDepth 20000
open Go.AE
theorem toI_len {l : List Nat} : (toI l).length = l.length := by simp [toI]
theorem incN_I {a : Nat} : ∀ (l : List Nat), incR a (toI l) = (incN a l).map toI
  | [] => rfl
  | x :: t => by
    rw [toI, List.map_cons, incR, incN]
    by_cases h : x + 1 = a
    · rw [if_pos (by omega), if_pos h, show List.map (fun n : Nat => (n : Int)) t = toI t from rfl, incN_I t, Option.map_map, Option.map_map]; rfl
    · rw [if_neg (by omega), if_neg h]
      simp [toI]
theorem sucN_I {a : Nat} (l : List Nat) : sucL a (toI l) = (sucN a l).map toI := by
  have h : (toI l).reverse = toI l.reverse := by simp [toI]
  rw [sucL, sucN, h, incN_I, Option.map_map, Option.map_map]
  congr 1
  funext r
  simp [toI]
theorem chn_get {a : Nat} : ∀ {L : List (List Nat)}, chnN a L = true → ∀ v (h : v < L.length), sucN a L[v] = L[v + 1]?
  | [], _, v, h => by simp at h
  | [d], hc, v, h => by
    have : v = 0 := by simp at h; omega
    subst this
    rw [chnN, Option.isNone_iff_eq_none] at hc
    simpa using hc
  | d :: e :: l, hc, v, h => by
    rw [chnN, Bool.and_eq_true] at hc
    cases v with
    | zero => simpa using hc.1
    | succ v => simpa using chn_get hc.2 v (by simpa using h)
theorem suc_at {N a : Nat} (h : (N, a) ∈ fewP) {v : Nat} {d : List Int} (hv : (allD N a)[v]? = some d) : sucL a d = (allD N a)[v + 1]? := by
  have h1 := List.all_eq_true.1 chn_all (N, a) h
  rw [Bool.and_eq_true] at h1
  unfold allD at hv ⊢
  rw [List.getElem?_map] at hv ⊢
  rw [Option.map_eq_some_iff] at hv
  obtain ⟨l, h2, rfl⟩ := hv
  obtain ⟨h3, h4⟩ := List.getElem?_eq_some_iff.1 h2
  have h5 := chn_get h1.1 v h3
  rw [sucN_I, ← h4, h5]
theorem few_bd {N a : Nat} (h : (N, a) ∈ fewP) : (1 ≤ N ∧ N ≤ 3) ∧ 1 ≤ a ∧ a ≤ 4 := by
  have : (fewP.all fun q => decide ((1 ≤ q.1 ∧ q.1 ≤ 3) ∧ 1 ≤ q.2 ∧ q.2 ≤ 4)) = true := by decide
  have := List.all_eq_true.1 this (N, a) h
  simpa using this
theorem allD_nat {N a : Nat} (h : (N, a) ∈ fewP) {l : List Nat} (hl : l ∈ digN a (N * N)) : l.length = N * N ∧ ∀ x ∈ l, x < a := by
  have h1 := List.all_eq_true.1 chn_all (N, a) h
  rw [Bool.and_eq_true] at h1
  have h2 := List.all_eq_true.1 h1.2 l hl
  rw [Bool.and_eq_true] at h2
  exact ⟨Nat.eq_of_beq_eq_true h2.1, fun x hx => by have := List.all_eq_true.1 h2.2 x hx; rwa [Nat.blt_eq] at this⟩
theorem nat_vp {N a : Nat} (h : (N, a) ∈ fewP) {l : List Nat} (hl : l ∈ digN a (N * N)) : VP ⟨N, toI l⟩ N := by
  obtain ⟨h1, h2⟩ := allD_nat h hl
  obtain ⟨h3, h4⟩ := few_bd h
  refine ⟨rfl, h3.1, by omega, by rw [toI_len, h1], fun x hx => ?_⟩
  obtain ⟨y, hy, rfl⟩ := List.mem_map.1 hx
  have := h2 y hy; omega
theorem allD_vp {N a : Nat} (h : (N, a) ∈ fewP) {v : Nat} {d : List Int} (hv : (allD N a)[v]? = some d) : VP ⟨N, d⟩ N := by
  have hm := List.mem_of_getElem? hv
  obtain ⟨l, hl, rfl⟩ := List.mem_map.1 hm
  exact nat_vp h hl
theorem allD_0_all : (fewP.all fun q => (digN q.2 (q.1 * q.1)).head? == some (List.replicate (q.1 * q.1) 0) && Nat.ble (digN q.2 (q.1 * q.1)).length 512) = true := by decide +kernel
theorem allD_0 {N a : Nat} (h : (N, a) ∈ fewP) : (allD N a)[0]? = some (List.replicate (N * N) 0) ∧ (allD N a).length ≤ 512 := by
  have h1 := List.all_eq_true.1 allD_0_all (N, a) h
  rw [Bool.and_eq_true] at h1
  have h2 : (digN a (N * N)).head? = some (List.replicate (N * N) 0) := by simpa using h1.1
  refine ⟨?_, by rw [allD, List.length_map]; exact Nat.le_of_ble_eq_true h1.2⟩
  rw [List.head?_eq_getElem?] at h2
  rw [allD, List.getElem?_map, h2]
  simp [toI]
/-! ### Moved plates, for the kernel -/
noncomputable def tabT : List (List (List Nat)) := [[[0], [0], [0], [0], [0], [0], [0], [0]], [[0, 1, 2, 3], [2, 0, 3, 1], [3, 2, 1, 0], [1, 3, 0, 2], [1, 0, 3, 2], [3, 1, 2, 0], [2, 3, 0, 1], [0, 2, 1, 3]], [[0, 1, 2, 3, 4, 5, 6, 7, 8], [6, 3, 0, 7, 4, 1, 8, 5, 2], [8, 7, 6, 5, 4, 3, 2, 1, 0], [2, 5, 8, 1, 4, 7, 0, 3, 6], [2, 1, 0, 5, 4, 3, 8, 7, 6], [8, 5, 2, 7, 4, 1, 6, 3, 0], [6, 7, 8, 3, 4, 5, 0, 1, 2], [0, 3, 6, 1, 4, 7, 2, 5, 8]]]
theorem tab_all : ([1, 2, 3].all fun N => (List.range 8).all fun g => decide ((tabT.getD (N - 1) []).getD g [] = (List.range (N * N)).map fun j => posN N (invM g) j)) = true := by decide +kernel
end Go.Proofs.Ythoodfiacfmhgaa
end

section
/- Plates that are their own least forms are counted: plain laws. -/
namespace Go.Proofs.Ythoodfiacfmhgaa
set_option maxRecDepth 20000
open Go.AE
noncomputable def gatN (N g : Nat) (l : List Nat) : List Nat := ((tabT.getD (N - 1) []).getD g []).map fun j => geN l j
theorem mem3 {N : Nat} (h : 1 ≤ N ∧ N ≤ 3) : N ∈ [1, 2, 3] := by
  have : N = 1 ∨ N = 2 ∨ N = 3 := by omega
  rcases this with rfl | rfl | rfl <;> simp
theorem mov_gat {N : Nat} {l : List Nat} (hv : VP ⟨N, toI l⟩ N) (hN : 1 ≤ N ∧ N ≤ 3) {g : Int} (hg : 0 ≤ g ∧ g < 8) : (movP ⟨N, toI l⟩ g).ds = toI (gatN N g.toNat l) := by
  have ht := List.all_eq_true.1 (List.all_eq_true.1 tab_all N (mem3 hN)) g.toNat (List.mem_range.2 (by omega))
  simp only [decide_eq_true_eq] at ht
  rw [Int.toNat_of_nonneg hg.1] at ht
  have hvm := movP_vp hv hg
  have hl : l.length = N * N := by have := hv.len; rw [← this]; exact toI_len.symm
  refine list_eq (by rw [hvm.len, toI_len, gatN, ht]; simp) fun j h1 h2 => ?_
  have hj : j < N * N := by rw [hvm.len] at h1; exact h1
  have h3 := posN_lt hv.lo hv.hi (m := invM g) hj
  have h4 := mov_at hv hg h3
  rw [(posN_inv hv.lo hg hj).2, List.getElem?_eq_getElem h1] at h4
  rw [Option.some.inj h4]
  simp only [toI, gatN, ht, List.getElem_map, List.getElem_range]
  rw [geN_get (by omega), getD_get (by simp; omega)]
  simp
noncomputable def ltN : List Nat → List Nat → Bool := fun l => List.rec (fun m => List.rec false (fun _ _ _ => true) m) (fun x _ ih m => List.rec false (fun y t _ => Nat.blt x y || (Nat.beq x y && ih t)) m) l
theorem ltN_nil : ltN [] [] = false := rfl
theorem ltN_cons (x y : Nat) (s t : List Nat) : ltN (x :: s) (y :: t) = (Nat.blt x y || (Nat.beq x y && ltN s t)) := rfl
theorem ltN_I : ∀ (s t : List Nat), decide (cmpL (toI s) (toI t) < 0) = ltN s t
  | [], [] => rfl
  | [], _ :: _ => rfl
  | _ :: _, [] => rfl
  | x :: s, y :: t => by
    have ih := ltN_I s t
    rw [ltN_cons, ← ih]
    show decide ((if (x : Int) < y then -1 else if (y : Int) < x then 1 else cmpL (toI s) (toI t)) < 0) = _
    by_cases h1 : x < y
    · rw [if_pos (by omega), show Nat.blt x y = true by rw [Nat.blt_eq]; exact h1]; rfl
    · rw [if_neg (by omega)]
      have e1 : Nat.blt x y = false := by rw [Bool.eq_false_iff]; intro h; rw [Nat.blt_eq] at h; exact h1 h
      by_cases h2 : y < x
      · have e2 : Nat.beq x y = false := by rw [Bool.eq_false_iff]; intro h; have := Nat.eq_of_beq_eq_true h; omega
        rw [if_pos (by omega), e1, e2]; rfl
      · have e : x = y := by omega
        subst e
        rw [if_neg (by omega), e1, Nat.beq_refl]; simp
noncomputable def okN (N : Nat) (G : List Int) (l : List Nat) : Bool := G.all fun g => !ltN (gatN N g.toNat l) l
theorem G_head_all : (Gs.all fun G => G.head? == some 0) = true := by decide +kernel
theorem okN_eq {N : Nat} {l : List Nat} (hv : VP ⟨N, toI l⟩ N) (hN : 1 ≤ N ∧ N ≤ 3) {G : List Int} (hG : G ∈ Gs) : decide (lstM ⟨N, toI l⟩ G = 0) = okN N G l := by
  have hh := List.all_eq_true.1 G_head_all G hG
  have hk : ∀ g ∈ G, (decide (cmpL (movP (⟨N, toI l⟩ : Pl) g).ds (toI l) < 0)) = ltN (gatN N g.toNat l) l := fun g hg => by
    rw [mov_gat hv hN (G_inv hG hg).2, ltN_I]
  have h0 := movP_0 hv
  rw [Bool.eq_iff_iff, decide_eq_true_eq, okN, List.all_eq_true]
  constructor
  · intro h g hg
    have h1 := lstM_le (p := (⟨N, toI l⟩ : Pl)) hg
    rw [h, h0] at h1
    rw [← hk g hg]
    unfold leC at h1
    simpa using h1
  · intro h
    cases G with
    | nil => simp at hh
    | cons a t =>
      have ha : a = 0 := by simpa using hh
      subst ha
      show bstL (lesM ⟨N, toI l⟩) 0 t = 0
      refine bstL_keep t 0 fun x hx => ?_
      have h1 := h x (List.mem_cons_of_mem _ hx)
      rw [← hk x (List.mem_cons_of_mem _ hx)] at h1
      rw [h0]
      unfold leC
      simpa using h1
theorem frm_all : (fewP.all fun q => Gs.all fun G => Nat.beq ((digN q.2 (q.1 * q.1)).filter (okN q.1 G)).length (cntT q.1 q.2 G)) = true := by decide +kernel
/-- How many of the first plates are their own least forms. -/
def frm (N : Nat) (G : List Int) (L : List (List Int)) : Nat := (L.filter fun d => decide (lstM ⟨N, d⟩ G = 0)).length
theorem frm_eq {N a : Nat} (h : (N, a) ∈ fewP) {G : List Int} (hG : G ∈ Gs) : frm N G (allD N a) = cntT N a G := by
  have h1 := Nat.eq_of_beq_eq_true (List.all_eq_true.1 (List.all_eq_true.1 frm_all (N, a) h) G hG)
  simp only at h1
  rw [← h1, frm, allD, List.filter_map, List.length_map]
  congr 1
  refine List.filter_congr fun l hl => ?_
  exact okN_eq (nat_vp h hl) (few_bd h).1 hG
theorem frm_take {N : Nat} {G : List Int} {L : List (List Int)} {v : Nat} {d : List Int} (h : L[v]? = some d) : frm N G (L.take (v + 1)) = frm N G (L.take v) + if lstM ⟨N, d⟩ G = 0 then 1 else 0 := by
  obtain ⟨h1, h2⟩ := List.getElem?_eq_some_iff.1 h
  unfold frm
  rw [List.take_succ_eq_append_getElem h1, List.filter_append, List.length_append, h2]
  congr 1
  by_cases h3 : lstM ⟨N, d⟩ G = 0 <;> simp [h3]
theorem frm_le {N : Nat} {G : List Int} {L : List (List Int)} {v : Nat} : frm N G (L.take v) ≤ v := by
  refine Nat.le_trans (List.length_filter_le _ _) ?_
  rw [List.length_take]; omega
end Go.Proofs.Ythoodfiacfmhgaa
end

section
/- Counts are compared with the plates themselves. -/
namespace Go.Proofs.Ythoodfiacfmhgaa
set_option maxRecDepth 20000
open Go.AE
theorem leastO_p (p : Pl) (c : Option Nat) (N : Nat) (hv : VP p N) (l : List Int) (d : Option Nat) (hl : l.length ≤ 1000000) (hi : ∀ x ∈ l, 0 ≤ x ∧ x < 8) : MutP Try.prog 86 [plA p c, intsA l d] [] 0 (.tup [.agg [i64 (movP p (bstL (lesM p) 0 l)).n, .out 0 (movP p (bstL (lesM p) 0 l)).ds.length 1], i64 (bstL (lesM p) 0 l)]) [(0, outB (((movP p (bstL (lesM p) 0 l)).ds).map i64) 3 (((movP p (bstL (lesM p) 0 l)).ds).length)), (1, some (.cells [i64 ((movP p (bstL (lesM p) 0 l)).n), .out 0 ((movP p (bstL (lesM p) 0 l)).ds.length) 1] 24))] 2 := by
  have hp0 : 0 < p.ds.length := by rw [hv.len]; exact Nat.mul_pos hv.lo hv.lo
  have hpl : p.ds.length ≤ 64 := by have := Nat.mul_le_mul hv.hi hv.hi; rw [hv.len]; exact this
  refine mut_of_body Try.func86 (c := body Try.f86) rfl (by decide) (by simp [Try.ntmps86]) fun w0 Φ0 ρ0 => ?_
  refine W_seq rfl ?_
  refine W_reg rfl ?_
  refine Rv rfl rfl rfl (U_boxF rfl rfl rfl) rfl rfl ?_
  refine Ra rfl rfl rfl (U_alloc) rfl rfl rfl ?_
  refine Rv rfl rfl rfl (U_assign rfl) rfl rfl ?_
  refine Re rfl ?_
  refine thenQ_n ?_
  refine W_seq rfl ?_
  refine W_reg rfl ?_
  refine Rv rfl rfl rfl (U_load2 rfl rfl rfl rfl) rfl rfl ?_
  refine Ra rfl rfl rfl (U_alloc) rfl rfl rfl ?_
  refine Rn rfl rfl rfl (U_storeAll rfl rfl rfl rfl rfl rfl) rfl ?_
  refine Rv rfl rfl rfl (U_assign rfl) rfl rfl ?_
  refine Re rfl ?_
  refine thenQ_n ?_
  refine W_seq rfl ?_
  refine W_seq rfl ?_
  refine W_reg rfl ?_
  refine Rv rfl rfl rfl (U_assign rfl) rfl rfl ?_
  refine Re rfl ?_
  refine thenQ_n ?_
  refine W_block rfl ?_
  refine WweakH (b := 1) (cs' := [i64 p.n, .ros (p.ds.map i64) p.ds.length none]) rfl (leL_cons (le_refl _) (leL_cons le_cap (leL_refl _))) ?_
  refine LoopTo (T' := [(1, .ros (l.map i64) l.length d), (2, .rop [i64 p.n, .ros (p.ds.map i64) p.ds.length c] 0), (4, .ptr 0 0), (6, .ptr 1 0), (7, i64 0), (8, i64 ((0 : Nat) : Int))]) (H' := [(0, some (.cells [i64 0, .nils] 24)), (1, some (.cells [i64 p.n, .ros (p.ds.map i64) p.ds.length none] 24))]) (n := 2) rfl (fun mz_ qz_ => ∃ (k : Nat) (q : Pl) (b : Int), k ≤ l.length ∧ q = movP p b ∧ bstL (lesM p) 0 l = bstL (lesM p) b (l.drop k) ∧ (0 ≤ b ∧ b < 8) ∧ mz_ = l.length - k ∧ qz_ = ⟨[(1, .ros (l.map i64) l.length d), (2, .rop [i64 p.n, .ros (p.ds.map i64) p.ds.length c] 0), (4, .ptr 0 0), (6, .ptr 1 0), (7, i64 b), (8, i64 ((k : Nat) : Int))], [(0, some (.cells [i64 0, .nils] 24)), (1, some (.cells [i64 q.n, .ros (q.ds.map i64) q.ds.length none] 24))], 2, []⟩) ⟨0, p, 0, (by omega), ((movP_0 hv).symm), rfl, (by omega), rfl, rfl⟩ id ⟨eD rfl rfl, eD rfl rfl, e_ rfl rfl, e_ rfl rfl, eD rfl rfl, eD rfl rfl, trivial⟩ ⟨rD rfl rfl rfl, rD rfl rfl rfl, trivial⟩ rfl rfl rfl rfl (fun _ _ => rfl) ?_
  rintro _ _ ⟨k, q, b, hi0_0, hi0_1, hi0_2, hi0_3, rfl, rfl⟩
  have hql : q.ds.length = p.ds.length := by rw [hi0_1, movP_len]
  refine W_seq rfl ?_
  refine W_seq rfl ?_
  refine W_reg rfl ?_
  refine Rv rfl rfl rfl (U_move rfl) rfl rfl ?_
  refine Rv rfl rfl rfl (U_move rfl) rfl rfl ?_
  refine Rv rfl rfl rfl (U_lenOf rfl len_ros) rfl rfl ?_
  refine Rv rfl rfl rfl (U_lss rfl rfl) rfl rfl ?_
  refine Re rfl ?_
  refine thenQ_n ?_
  refine WcondP rfl rfl (fun hc0 => ?_) (fun hc0 => ?_)
  · have hck : k < l.length := by omega
    have hcm := hi _ (List.getElem_mem hck)
    have hml := movP_len (p := p) (m := l[k])
    have hq := hi0_1
    refine W_skip rfl ?_
    refine thenQ_n ?_
    refine W_seq rfl ?_
    refine W_block rfl ?_
    refine W_seq rfl ?_
    refine Wdraw rfl (by kernel_rfl) (by kernel_rfl) ?_
    refine Dv rfl rfl rfl (U_load2 rfl rfl rfl rfl) rfl rfl ?_
    refine Dv rfl rfl rfl (U_move rfl) rfl rfl ?_
    refine Dv rfl rfl rfl (U_move rfl) rfl rfl ?_
    have hx1 : k < l.length := by omega
    refine Dv rfl rfl rfl (U_indexR (j := k) rfl rfl rfl hx1) rfl rfl ?_
    refine Dv rfl rfl rfl (U_load1 rfl rfl (getM hx1)) rfl rfl ?_
    refine Dv rfl rfl rfl (U_call rfl rfl (moveOf_p p c N hv l[k] (by first | assumption | omega)) rfl) rfl rfl ?_
    refine Da rfl rfl rfl (U_alloc) rfl rfl rfl rfl ?_
    refine Dn_ rfl rfl rfl (U_storeAll rfl rfl rfl rfl rfl rfl) rfl rfl ?_
    refine Dr.nil rfl ?_
    refine thenQ_n ?_
    refine WfrN 2 rfl rfl (T' := [(1, .ros (l.map i64) l.length d), (2, .rop [i64 p.n, .ros (p.ds.map i64) p.ds.length c] 0), (4, .ptr 0 0), (6, .ptr 1 0), (7, i64 b), (8, i64 ((k : Nat) : Int)), (9, .rop [i64 ((movP p l[k]).n), .ros (((movP p l[k]).ds).map i64) (((movP p l[k]).ds).length) (some (movP p l[k]).ds.length)] 0)]) (H' := [(0, some (.cells [i64 0, .nils] 24)), (1, some (.cells [i64 q.n, .ros (q.ds.map i64) q.ds.length none] 24))]) ⟨⟨_, rfl, rfl⟩, ⟨_, rfl, rfl⟩, ⟨_, rfl, rfl⟩, ⟨_, rfl, rfl⟩, ⟨_, rfl, rfl⟩, ⟨_, rfl, rfl⟩, ⟨_, rfl, rfl⟩, trivial⟩ ⟨⟨rfl, rF rfl rfl⟩, ⟨rfl, rF rfl rfl⟩, trivial⟩ ?_
    refine W_seq rfl ?_
    refine W_reg rfl ?_
    refine Rv rfl rfl rfl (U_fieldAddrR rfl) rfl rfl ?_
    refine Rv rfl rfl rfl (U_load1 rfl rfl rfl) rfl rfl ?_
    refine Rv rfl rfl rfl (U_fieldAddr rfl) rfl rfl ?_
    refine Rv rfl rfl rfl (U_load1 rfl rfl rfl) rfl rfl ?_
    refine Rv rfl rfl rfl (U_call rfl rfl (before_p ((movP p l[k]).ds) q.ds (some (movP p l[k]).ds.length) none (by first | assumption | omega | (simp; done)) (by first | assumption | omega | (simp; done)) (by first | assumption | omega)) rfl) rfl rfl ?_
    refine Re rfl ?_
    refine thenQ_n ?_
    refine WcondP rfl rfl (fun hc1 => ?_) (fun hc1 => ?_)
    · have hc1' : lesM p l[k] b = true := by rw [lesM, ← hi0_1]; simpa using hc1
      clear hq
      refine WdrawL [28, 32] rfl (by kernel_rfl) (by kernel_rfl) ?_
      refine Dv rfl rfl rfl (U_load2 rfl rfl rfl rfl) rfl rfl ?_
      refine Dv rfl rfl rfl (U_move rfl) rfl rfl ?_
      refine Dv rfl rfl rfl (U_move rfl) rfl rfl ?_
      refine Dv rfl rfl rfl (U_indexR (j := k) rfl rfl rfl hx1) rfl rfl ?_
      refine Dv rfl rfl rfl (U_load1 rfl rfl (getM hx1)) rfl rfl ?_
      refine Dn_ rfl rfl rfl (U_storeAll rfl rfl rfl rfl rfl rfl) rfl rfl ?_
      refine Dv rfl rfl rfl (U_assign rfl) rfl rfl ?_
      refine Dr.nil rfl ?_
      refine blkQ_n ?_
      refine thenQ_n ?_
      refine W_reg rfl ?_
      refine Rv rfl rfl rfl (U_move rfl) rfl rfl ?_
      refine Rv rfl rfl rfl (U_add rfl rfl (w64e (m := ((k + 1 : Nat) : Int)) (by omega) (by omega) (by omega))) rfl rfl ?_
      refine Rv rfl rfl rfl (U_assign rfl) rfl rfl ?_
      refine Re rfl ?_
      refine thenQ_n ?_
      refine againWeakH (b := 1) (cs' := [i64 ((movP p l[k]).n), .ros (((movP p l[k]).ds).map i64) (((movP p l[k]).ds).length) none]) rfl (leL_cons (le_refl _) (leL_cons le_cap (leL_refl _))) ?_
      exact againTo (T' := [(1, .ros (l.map i64) l.length d), (2, .rop [i64 p.n, .ros (p.ds.map i64) p.ds.length c] 0), (4, .ptr 0 0), (6, .ptr 1 0), (7, i64 l[k]), (8, i64 (((k + 1) : Nat) : Int))]) (H' := [(0, some (.cells [i64 0, .nils] 24)), (1, some (.cells [i64 (movP p l[k]).n, .ros ((movP p l[k]).ds.map i64) (movP p l[k]).ds.length none] 24))]) (n := 2) (l.length - (k + 1)) ⟨k + 1, movP p l[k], l[k], (by omega), (by first | exact hq | rfl), (by first | exact hi0_2.trans (bstL_step hck (if_pos hc1').symm) | exact hi0_2.trans (bstL_step hck (if_neg hc1').symm)), (by assumption), rfl, rfl⟩ (by omega) id ⟨eD rfl rfl, eD rfl rfl, e_ rfl rfl, e_ rfl rfl, eD rfl rfl, eD rfl rfl, trivial⟩ ⟨rD rfl rfl rfl, rD rfl rfl rfl, trivial⟩ rfl rfl rfl rfl (fun _ _ => rfl)
    · have hc1' : ¬ lesM p l[k] b = true := by rw [lesM, ← hi0_1]; simpa using hc1
      refine W_skip rfl ?_
      refine blkQ_n ?_
      refine thenQ_n ?_
      refine W_reg rfl ?_
      refine Rv rfl rfl rfl (U_move rfl) rfl rfl ?_
      refine Rv rfl rfl rfl (U_add rfl rfl (w64e (m := ((k + 1 : Nat) : Int)) (by omega) (by omega) (by omega))) rfl rfl ?_
      refine Rv rfl rfl rfl (U_assign rfl) rfl rfl ?_
      refine Re rfl ?_
      refine thenQ_n ?_
      exact againTo (T' := [(1, .ros (l.map i64) l.length d), (2, .rop [i64 p.n, .ros (p.ds.map i64) p.ds.length c] 0), (4, .ptr 0 0), (6, .ptr 1 0), (7, i64 b), (8, i64 (((k + 1) : Nat) : Int))]) (H' := [(0, some (.cells [i64 0, .nils] 24)), (1, some (.cells [i64 q.n, .ros (q.ds.map i64) q.ds.length none] 24))]) (n := 2) (l.length - (k + 1)) ⟨k + 1, q, b, (by omega), (by first | exact hq | rfl), (by first | exact hi0_2.trans (bstL_step hck (if_pos hc1').symm) | exact hi0_2.trans (bstL_step hck (if_neg hc1').symm)), (by assumption), rfl, rfl⟩ (by omega) id ⟨eD rfl rfl, eD rfl rfl, e_ rfl rfl, e_ rfl rfl, eD rfl rfl, eD rfl rfl, trivial⟩ ⟨rD rfl rfl rfl, rD rfl rfl rfl, trivial⟩ rfl rfl rfl rfl (fun _ _ => rfl)
  · have hbl : bstL (lesM p) 0 l = b := by rw [hi0_2, List.drop_eq_nil_of_le (by omega), bstL]
    refine W_exit rfl ?_
    refine thenQ_x ?_
    refine thenQ_x ?_
    refine blkQ_x rfl ?_
    refine thenQ_n ?_
    refine W_seq rfl ?_
    refine WfrN 1 rfl rfl (T' := [(4, .ptr 0 0), (6, .rop [i64 q.n, .ros (q.ds.map i64) q.ds.length none] 0), (7, i64 b)]) (H' := [(0, some (.cells [i64 0, .nils] 24))]) ⟨⟨_, rfl, rfl⟩, ⟨_, rfl, rfl⟩, ⟨_, rfl, rfl⟩, trivial⟩ ⟨⟨rfl, rF rfl rfl⟩, trivial⟩ ?_
    refine WdrawL [34, 37] rfl (by kernel_rfl) (by kernel_rfl) ?_
    refine Dv rfl rfl rfl (U_fieldAddrR rfl) rfl rfl ?_
    refine Dv rfl rfl rfl (U_load1 rfl rfl rfl) rfl rfl ?_
    refine Dv rfl rfl rfl (U_buildSliceF (by rfl) (by decide) rfl rfl rfl) rfl rfl ?_
    refine Dv rfl rfl rfl (U_fieldAddrR rfl) rfl rfl ?_
    refine Dv rfl rfl rfl (U_load1 rfl rfl rfl) rfl rfl ?_
    refine Da rfl rfl rfl (U_appL (n' := q.ds.length) rfl rfl rfl rfl (srcR (map_len1 _)) (by omega) (by omega) rfl) rfl rfl rfl rfl ?_
    refine Dv rfl rfl rfl (U_build rfl rfl) rfl rfl ?_
    refine Dv rfl rfl rfl (U_move rfl) rfl rfl ?_
    refine Dn_ rfl rfl rfl (U_storeAll rfl rfl rfl rfl rfl rfl) rfl rfl ?_
    refine Dv rfl rfl rfl (U_assign rfl) rfl rfl ?_
    refine Dr.nil rfl ?_
    refine thenQ_n ?_
    refine W_ret rfl ?_
    subst hbl
    subst hi0_1
    exact retTo (T' := [(4, .ptr 1 0), (5, i64 (bstL (lesM p) 0 l))]) (mapN [2, 0]) ⟨e_ rfl rfl, eD rfl rfl, trivial⟩ ⟨rO (mapD (fun _ => rfl) _) rfl rfl, r_ rfl rfl rfl, trivial⟩ rfl rfl (fun _ h => absurd h (Nat.not_lt_zero _)) (rlA rfl rfl rfl (rlT rfl rl0)) rfl
theorem plain_ints : ∀ (l : List Int), plainL (l.map i64) = true
  | [] => rfl
  | _ :: l => plain_ints l
theorem leastF_p (p : Pl) (c : Option Nat) (N : Nat) (hv : VP p N) (ks : List Int) (d : Option Nat) : PureF Try.prog 86 [.agg [i64 p.n, intsA p.ds c], intsA (reachedQ ks) d] (.tup [.agg [i64 (movP p (lstM p (reachedQ ks))).n, intsA (movP p (lstM p (reachedQ ks))).ds none], i64 (lstM p (reachedQ ks))]) := by
  have k := leastO_p p c N hv (reachedQ ks) d (Nat.le_trans reached_len.2 (by decide)) fun x hx => reached_in hx
  rw [lstM_all reached_0] at k
  exact pureF_of_mut k rfl rfl rfl (plain_ints _) (mapD (fun _ => rfl) _) (by rw [movP_len, hv.len]; exact Nat.mul_pos hv.lo hv.lo)
theorem leastN_p (N : Nat) (e : List Int) (he : e.length = N * N) (c : Option Nat) (hv : VP ⟨N, e⟩ N) (ks : List Int) (d : Option Nat) : PureF Try.prog 86 [.agg [i64 ((N : Nat) : Int), .ros (e.map i64) (N * N) c], intsA (reachedQ ks) d] (.tup [.agg [i64 (movP (⟨((N : Nat) : Int), e⟩ : Pl) (lstM (⟨((N : Nat) : Int), e⟩ : Pl) (reachedQ ks))).n, intsA (movP (⟨((N : Nat) : Int), e⟩ : Pl) (lstM (⟨((N : Nat) : Int), e⟩ : Pl) (reachedQ ks))).ds none], i64 (lstM (⟨((N : Nat) : Int), e⟩ : Pl) (reachedQ ks))]) := by
  have k := leastF_p (⟨((N : Nat) : Int), e⟩ : Pl) c N hv ks d
  have e2 : intsA e c = .ros (e.map i64) (N * N) c := by show AV.ros _ _ _ = _; rw [he]
  rw [← e2]; exact k
theorem get_e {d e : List Int} {m k i : Nat} (he : e = d.take m ++ List.replicate k (0 : Int)) (h0 : 0 < m) (hm : m - 1 < d.length) (hi : i = m - 1) (h : i < e.length) : e[i] = d[m - 1] := by
  subst he
  subst hi
  rw [List.getElem_append_left (by rw [List.length_take]; omega), List.getElem_take]
theorem forms_p (N a : Nat) (hf : (N, a) ∈ fewP) (ks : List Int) (c : Option Nat) (hok : okK 0 ks = true) : Pure Try.prog 49 [i64 ((N : Nat) : Int), i64 ((a : Nat) : Int), intsA ks c] (i64 ((cntT N a (reachedQ ks) : Nat) : Int)) := by
  obtain ⟨hN, ha⟩ := few_bd hf
  have hkl := okK_len hok
  have h9 : N * N ≤ 9 := Nat.mul_le_mul hN.2 hN.2
  have h1 : 1 ≤ N * N := Nat.mul_le_mul hN.1 hN.1
  obtain ⟨h00, h512⟩ := allD_0 hf
  have hl0 : 0 < (allD N a).length := (List.getElem?_eq_some_iff.1 h00).1
  have hG := reach_G hok
  refine pure_of_body Try.func49 (c := body Try.f49) rfl (by simp [Try.ntmps49]) fun w0 Φ0 => ?_
  refine W_seq rfl ?_
  refine W_reg rfl ?_
  refine Rv rfl rfl rfl (U_assign rfl) rfl rfl ?_
  refine Re rfl ?_
  refine thenQ_n ?_
  refine W_seq rfl ?_
  refine W_reg rfl ?_
  refine Rv rfl rfl rfl (U_move rfl) rfl rfl ?_
  refine Rv rfl rfl rfl (U_move rfl) rfl rfl ?_
  refine Rv rfl rfl rfl (U_move rfl) rfl rfl ?_
  refine Rv rfl rfl rfl (U_mul rfl rfl (w64e (m := ((N * N : Nat) : Int)) (by omega) (by omega) (by omega))) rfl rfl ?_
  refine Ra rfl rfl rfl (U_mkL (n := N * N) (cs' := (List.replicate (N * N) (0 : Int)).map i64) rfl rfl rfl (by omega) (replM rfl _)) rfl rfl rfl ?_
  refine Rv rfl rfl rfl (U_build rfl rfl) rfl rfl ?_
  refine Ra rfl rfl rfl (U_alloc) rfl rfl rfl ?_
  refine Rn rfl rfl rfl (U_storeAll rfl rfl rfl rfl rfl rfl) rfl ?_
  refine Re rfl ?_
  refine thenQ_n ?_
  refine W_seq rfl ?_
  refine W_reg rfl ?_
  refine Rv rfl rfl rfl (U_move rfl) rfl rfl ?_
  refine Rv rfl rfl rfl (U_call rfl rfl (reachedR_p ks c (by first | assumption | omega) hok) rfl) rfl rfl ?_
  refine Rv rfl rfl rfl (U_assign rfl) rfl rfl ?_
  refine Re rfl ?_
  refine thenQ_n ?_
  refine W_seq rfl ?_
  refine W_reg rfl ?_
  refine Rv rfl rfl rfl (U_assign rfl) rfl rfl ?_
  refine Re rfl ?_
  refine thenQ_n ?_
  refine W_block rfl ?_
  refine LoopTo (T' := [(1, i64 ((a : Nat) : Int)), (7, .ptr 1 0), (8, .ros ((reachedQ ks).map i64) ((reachedQ ks).length) none), (9, i64 ((0 : Nat) : Int))]) (H' := [(0, some (.cells ((List.replicate (N * N) 0).map i64) 3)), (1, some (.cells [i64 ((N : Nat) : Int), .slice 0 0 (N * N) (N * N)] 24))]) (n := 2) rfl (fun mz_ qz_ => ∃ (v : Nat) (d : List Int) (t : Nat), (allD N a)[v]? = some d ∧ t = frm N (reachedQ ks) ((allD N a).take v) ∧ v < (allD N a).length ∧ mz_ = (allD N a).length - v ∧ qz_ = ⟨[(1, i64 ((a : Nat) : Int)), (7, .ptr 1 0), (8, .ros ((reachedQ ks).map i64) ((reachedQ ks).length) none), (9, i64 ((t : Nat) : Int))], [(0, some (.cells (d.map i64) 3)), (1, some (.cells [i64 ((N : Nat) : Int), .slice 0 0 (N * N) (N * N)] 24))], 2, []⟩) ⟨0, List.replicate (N * N) 0, 0, h00, rfl, hl0, rfl, rfl⟩ id ⟨eD rfl rfl, e_ rfl rfl, eD rfl rfl, eD rfl rfl, trivial⟩ ⟨rD (mapD (fun _ => rfl) _) rfl rfl, r_ rfl rfl rfl, trivial⟩ rfl rfl rfl rfl (fun _ _ => rfl) ?_
  rintro _ _ ⟨v, d, t, hi0_0, hi0_1, hi0_2, rfl, rfl⟩
  have hvd := allD_vp hf hi0_0
  have hdl : d.length = N * N := hvd.len
  have htv : t ≤ v := by rw [hi0_1]; exact frm_le
  refine W_block rfl ?_
  refine W_seq rfl ?_
  refine W_reg rfl ?_
  refine Rv rfl rfl rfl (U_load2 rfl rfl rfl rfl) rfl rfl ?_
  refine Rv rfl rfl rfl (U_move rfl) rfl rfl ?_
  refine Rv rfl rfl rfl (U_callF (res := .tup [.agg [i64 ((movP (⟨((N : Nat) : Int), d⟩ : Pl) (lstM (⟨((N : Nat) : Int), d⟩ : Pl) (reachedQ ks))).n), .ros (((movP (⟨((N : Nat) : Int), d⟩ : Pl) (lstM (⟨((N : Nat) : Int), d⟩ : Pl) (reachedQ ks))).ds).map i64) (((movP (⟨((N : Nat) : Int), d⟩ : Pl) (lstM (⟨((N : Nat) : Int), d⟩ : Pl) (reachedQ ks))).ds).length) none], i64 (lstM (⟨((N : Nat) : Int), d⟩ : Pl) (reachedQ ks))]) (Frz.fr 0 rfl (mapD (fun _ => rfl) _)) rfl rfl (by simp only [List.nil_append, List.append_nil, List.cons_append, AV.fr, frL, Nat.beq_refl, bleR, Bool.and_true, Bool.and_self, if_true, List.drop_zero]; exact leastN_p N d hdl (some (N * N)) hvd ks none) (by simp only [List.nil_append, List.append_nil, List.cons_append, AV.fr, frL, Nat.beq_refl, bleR, Bool.and_true, Bool.and_self, if_true, List.drop_zero]; rfl)) rfl rfl ?_
  refine Rv rfl rfl rfl (U_move rfl) rfl rfl ?_
  refine Rv rfl rfl rfl (U_extract rfl rfl) rfl rfl ?_
  refine Rv rfl rfl rfl (U_extract rfl rfl) rfl rfl ?_
  refine Ra rfl rfl rfl (U_alloc) rfl rfl rfl ?_
  refine Rn rfl rfl rfl (U_storeAll rfl rfl rfl rfl rfl rfl) rfl ?_
  refine Rv rfl rfl rfl (U_assign rfl) rfl rfl ?_
  refine Re rfl ?_
  refine thenQ_n ?_
  refine W_seq rfl ?_
  refine W_seq rfl ?_
  refine W_reg rfl ?_
  refine Rv rfl rfl rfl (U_move rfl) rfl rfl ?_
  refine Rv rfl rfl rfl (U_eql rfl rfl) rfl rfl ?_
  refine Re rfl ?_
  refine thenQ_n ?_
  refine WcondP rfl rfl (fun hc0 => ?_) (fun hc0 => ?_)
  · have hct : frm N (reachedQ ks) ((allD N a).take (v + 1)) = t + 1 := by rw [frm_take hi0_0, if_pos hc0, ← hi0_1]
    refine W_reg rfl ?_
    refine Rv rfl rfl rfl (U_move rfl) rfl rfl ?_
    refine Rv rfl rfl rfl (U_add rfl rfl (w64e (m := ((t + 1 : Nat) : Int)) (by omega) (by omega) (by omega))) rfl rfl ?_
    refine Rv rfl rfl rfl (U_assign rfl) rfl rfl ?_
    refine Re rfl ?_
    refine thenQ_n ?_
    refine W_seq rfl ?_
    refine W_reg rfl ?_
    refine Rv rfl rfl rfl (U_fieldAddr rfl) rfl rfl ?_
    refine Rv rfl rfl rfl (U_load1 rfl rfl rfl) rfl rfl ?_
    refine Rv rfl rfl rfl (U_lenOf rfl len_slice) rfl rfl ?_
    refine Rv rfl rfl rfl (U_sub rfl rfl (w64 (by omega) (by omega))) rfl rfl ?_
    refine Rv rfl rfl rfl (U_assign rfl) rfl rfl ?_
    refine Re rfl ?_
    refine thenQ_n ?_
    refine W_seq rfl ?_
    refine W_block rfl ?_
    refine LoopTo (T' := [(1, i64 ((a : Nat) : Int)), (7, .ptr 1 0), (8, .ros ((reachedQ ks).map i64) ((reachedQ ks).length) none), (9, i64 ((t + 1 : Nat) : Int)), (12, i64 ((((N * N) : Nat) : Int) - 1))]) (H' := [(0, some (.cells (d.map i64) 3)), (1, some (.cells [i64 ((N : Nat) : Int), .slice 0 0 (N * N) (N * N)] 24))]) (n := 2) rfl (fun mz_ qz_ => ∃ (m : Nat) (e : List Int), e = d.take m ++ List.replicate (N * N - m) 0 ∧ (incR ((a : Nat) : Int) d.reverse = (incR ((a : Nat) : Int) (d.take m).reverse).map fun r => List.replicate (N * N - m) 0 ++ r) ∧ m ≤ N * N ∧ e.length = N * N ∧ mz_ = 0 + m ∧ qz_ = ⟨[(1, i64 ((a : Nat) : Int)), (7, .ptr 1 0), (8, .ros ((reachedQ ks).map i64) ((reachedQ ks).length) none), (9, i64 ((t + 1 : Nat) : Int)), (12, i64 (((m : Nat) : Int) - 1))], [(0, some (.cells (e.map i64) 3)), (1, some (.cells [i64 ((N : Nat) : Int), .slice 0 0 (N * N) (N * N)] 24))], 2, []⟩) ⟨N * N, d, (by rw [Nat.sub_self, List.take_of_length_le (by omega)]; simp), (by rw [Nat.sub_self, List.take_of_length_le (by omega)]; simp), (Nat.le_refl _), (by omega), rfl, rfl⟩ id ⟨eD rfl rfl, e_ rfl rfl, eD rfl rfl, eD rfl rfl, eD rfl rfl, trivial⟩ ⟨rD (mapD (fun _ => rfl) _) rfl rfl, r_ rfl rfl rfl, trivial⟩ rfl rfl rfl rfl (fun _ _ => rfl) ?_
    rintro _ _ ⟨m, e, hi1_0, hi1_1, hi1_2, hi1_3, rfl, rfl⟩
    have he0 := hi1_0
    have hin := hi1_1
    have hmn := hi1_2
    have hel := hi1_3
    refine W_seq rfl ?_
    refine W_seq rfl ?_
    refine Wjoin ⟨[(1, i64 ((a : Nat) : Int)), (7, .ptr 1 0), (8, .ros ((reachedQ ks).map i64) ((reachedQ ks).length) none), (9, i64 ((t + 1 : Nat) : Int)), (12, i64 (((m : Nat) : Int) - 1)), (46, .bool ((decide (0 ≤ (((m : Nat) : Int) - 1))) && (decide (e[(((m : Nat) : Int) - 1).toNat] = (((a : Nat) : Int) - 1)))))], [(0, some (.cells (e.map i64) 3)), (1, some (.cells [i64 ((N : Nat) : Int), .slice 0 0 (N * N) (N * N)] 24))], 2, []⟩ ?_ ?_
    · refine W_reg rfl ?_
      refine Rv rfl rfl rfl (U_move rfl) rfl rfl ?_
      refine Rv rfl rfl rfl (U_geq rfl rfl) rfl rfl ?_
      refine Rv rfl rfl rfl (U_move rfl) rfl rfl ?_
      refine Rsplit (t := 37) rfl (fun hg1 => ?_) (fun hg1 => ?_)
      · rw [hg1]
        have hg1' : 0 ≤ (((m : Nat) : Int) - 1) := of_decide_eq_true hg1
        refine Rv rfl rfl rfl (U_fieldAddr rfl) rfl rfl ?_
        refine Rv rfl rfl rfl (U_load1 rfl rfl rfl) rfl rfl ?_
        refine Rv rfl rfl rfl (U_move rfl) rfl rfl ?_
        have hx2 : (((m : Nat) : Int) - 1).toNat < e.length := by omega
        refine Rv rfl rfl rfl (U_indexS (j := (((m : Nat) : Int) - 1).toNat) rfl rfl (by omega) (by omega)) rfl rfl ?_
        refine Rv rfl rfl rfl (U_load1 rfl rfl (getM0 hx2)) rfl rfl ?_
        refine Rv rfl rfl rfl (U_move rfl) rfl rfl ?_
        refine Rv rfl rfl rfl (U_sub rfl rfl (w64 (by omega) (by omega))) rfl rfl ?_
        refine Rv rfl rfl rfl (U_eql rfl rfl) rfl rfl ?_
        refine Rv rfl rfl rfl (U_pick_t rfl rfl) rfl rfl ?_
        refine Re rfl ?_
        exact joinTo id ⟨eD rfl rfl, e_ rfl rfl, eD rfl rfl, eD rfl rfl, eD rfl rfl, eD rfl rfl, trivial⟩ ⟨rD (mapD (fun _ => rfl) _) rfl rfl, r_ rfl rfl rfl, trivial⟩ rfl rfl rfl rfl (fun _ _ => rfl)
      · rw [hg1]
        have hg1' : ¬ (0 ≤ (((m : Nat) : Int) - 1)) := of_decide_eq_false hg1
        refine Rs rfl rfl rfl rfl rfl ?_
        refine Rs rfl rfl rfl rfl rfl ?_
        refine Rs rfl rfl rfl rfl rfl ?_
        refine Rs rfl rfl rfl rfl rfl ?_
        refine Rs rfl rfl rfl rfl rfl ?_
        refine Rs rfl rfl rfl rfl rfl ?_
        refine Rs rfl rfl rfl rfl rfl ?_
        refine Rs rfl rfl rfl rfl rfl ?_
        refine Rv rfl rfl rfl (U_pick_f rfl rfl) rfl rfl ?_
        refine Re rfl ?_
        exact joinTo id ⟨eD rfl rfl, e_ rfl rfl, eD rfl rfl, eD rfl rfl, eD rfl rfl, eD rfl rfl, trivial⟩ ⟨rD (mapD (fun _ => rfl) _) rfl rfl, r_ rfl rfl rfl, trivial⟩ rfl rfl rfl rfl (fun _ _ => rfl)
    refine thenQ_n ?_
    refine Wcond rfl rfl (fun hc1 => ?_) (fun hc1 => ?_)
    · have hm0 : 0 < m := by simp at hc1; omega
      have hmm : m - 1 + 1 = m := by omega
      have hmd : m - 1 < d.length := by omega
      have htn : (((m : Nat) : Int) - 1).toNat = m - 1 := by omega
      have hie : (((m : Nat) : Int) - 1).toNat < e.length := by omega
      have hgd : e[(((m : Nat) : Int) - 1).toNat] = d[m - 1] := get_e he0 hm0 hmd htn hie
      have hda : d[m - 1] = ((a : Nat) : Int) - 1 := by rw [← hgd]; have h3 := hc1; simp only [Bool.and_eq_true, decide_eq_true_eq] at h3; exact h3.2
      have hst1 : e.set ((((m : Nat) : Int) - 1).toNat) 0 = d.take (m - 1) ++ List.replicate (N * N - (m - 1)) 0 := by rw [htn, he0]; have h3 := set_zero (d := d) (m := m - 1) (k := N * N - m) hmd; rw [hmm, show N * N - m + 1 = N * N - (m - 1) by omega] at h3; exact h3
      have hst2 : incR ((a : Nat) : Int) d.reverse = (incR ((a : Nat) : Int) (d.take (m - 1)).reverse).map fun r => List.replicate (N * N - (m - 1)) 0 ++ r := by have h3 := inc_zero (k := N * N - m) hmd hda (by rw [hmm]; exact hin); rw [show N * N - m + 1 = N * N - (m - 1) by omega] at h3; exact h3
      refine W_skip rfl ?_
      refine thenQ_n ?_
      refine W_block rfl ?_
      refine W_seq rfl ?_
      refine W_reg rfl ?_
      refine Rv rfl rfl rfl (U_fieldAddr rfl) rfl rfl ?_
      refine Rv rfl rfl rfl (U_load1 rfl rfl rfl) rfl rfl ?_
      refine Rv rfl rfl rfl (U_move rfl) rfl rfl ?_
      have hx3 : (((m : Nat) : Int) - 1).toNat < e.length := by omega
      refine Rv rfl rfl rfl (U_indexS (j := (((m : Nat) : Int) - 1).toNat) rfl rfl (by omega) (by omega)) rfl rfl ?_
      refine Rn rfl rfl rfl (U_store (n := 1) (cs' := (e.set ((((m : Nat) : Int) - 1).toNat) 0).map i64) rfl rfl rfl rfl rfl (stLt hx3) rfl setM) rfl ?_
      refine Re rfl ?_
      refine thenQ_n ?_
      refine W_reg rfl ?_
      refine Rv rfl rfl rfl (U_move rfl) rfl rfl ?_
      refine Rv rfl rfl rfl (U_sub rfl rfl (w64e (m := (((m - 1 : Nat)) : Int) - 1) (by omega) (by omega) (by omega))) rfl rfl ?_
      refine Rv rfl rfl rfl (U_assign rfl) rfl rfl ?_
      refine Re rfl ?_
      refine blkQ_n ?_
      refine thenQ_n ?_
      exact againTo (T' := [(1, i64 ((a : Nat) : Int)), (7, .ptr 1 0), (8, .ros ((reachedQ ks).map i64) ((reachedQ ks).length) none), (9, i64 ((t + 1 : Nat) : Int)), (12, i64 ((((m - 1) : Nat) : Int) - 1))]) (H' := [(0, some (.cells ((e.set ((((m : Nat) : Int) - 1).toNat) 0).map i64) 3)), (1, some (.cells [i64 ((N : Nat) : Int), .slice 0 0 (N * N) (N * N)] 24))]) (n := 2) (0 + (m - 1)) ⟨m - 1, e.set ((((m : Nat) : Int) - 1).toNat) 0, hst1, hst2, (by omega), (by simpa using hi1_3), rfl, rfl⟩ (by omega) id ⟨eD rfl rfl, e_ rfl rfl, eD rfl rfl, eD rfl rfl, eD rfl rfl, trivial⟩ ⟨rD (mapD (fun _ => rfl) _) rfl rfl, r_ rfl rfl rfl, trivial⟩ rfl rfl rfl rfl (fun _ _ => rfl)
    · have hc1' := Bool.eq_false_iff.1 hc1
      refine W_exit rfl ?_
      refine thenQ_x ?_
      refine thenQ_x ?_
      refine blkQ_x rfl ?_
      refine thenQ_n ?_
      refine W_seq rfl ?_
      refine W_seq rfl ?_
      refine W_reg rfl ?_
      refine Rv rfl rfl rfl (U_move rfl) rfl rfl ?_
      refine Rv rfl rfl rfl (U_lss rfl rfl) rfl rfl ?_
      refine Re rfl ?_
      refine thenQ_n ?_
      refine WcondP rfl rfl (fun hc2 => ?_) (fun hc2 => ?_)
      · have hm0 : m = 0 := by omega
        have hsn : sucL ((a : Nat) : Int) d = none := inc_end (k := N * N - m) (by have h3 := hin; rw [hm0] at h3 ⊢; exact h3)
        have hnn := suc_at hf hi0_0
        rw [hsn] at hnn
        have hall : (allD N a).take (v + 1) = allD N a := List.take_of_length_le (List.getElem?_eq_none_iff.1 hnn.symm)
        have hres : ((cntT N a (reachedQ ks) : Nat)) = frm N (reachedQ ks) ((allD N a).take (v + 1)) := by rw [hall, frm_eq hf hG]
        rw [hct] at hres
        refine W_seq rfl ?_
        refine W_reg rfl ?_
        refine Rv rfl rfl rfl (U_move rfl) rfl rfl ?_
        refine Rv rfl rfl rfl (U_assign rfl) rfl rfl ?_
        refine Re rfl ?_
        refine thenQ_n ?_
        refine W_ret rfl ?_
        refine thenQ_r ?_
        refine blkQ_r ?_
        refine thenQ_r ?_
        refine blkQ_r ?_
        exact retL (rlT rfl rl0) (by first | rfl | (simp only [packA]; rw [hres]; first | done | rfl)) rfl
      · have hm0 : 0 < m := by omega
        have hmm : m - 1 + 1 = m := by omega
        have hmd : m - 1 < d.length := by omega
        have htn : (((m : Nat) : Int) - 1).toNat = m - 1 := by omega
        have hie : (((m : Nat) : Int) - 1).toNat < e.length := by omega
        have hgd : e[(((m : Nat) : Int) - 1).toNat] = d[m - 1] := get_e he0 hm0 hmd htn hie
        have hda : d[m - 1] ≠ ((a : Nat) : Int) - 1 := by rw [← hgd]; intro h3; apply Bool.eq_false_iff.1 hc1; simp only [Bool.and_eq_true, decide_eq_true_eq]; exact ⟨by omega, h3⟩
        have hdb := hvd.bd _ (List.getElem_mem hmd)
        have heb : 0 ≤ e[(((m : Nat) : Int) - 1).toNat] ∧ e[(((m : Nat) : Int) - 1).toNat] ≤ 3 := by rw [hgd]; exact hdb
        have hnx : (allD N a)[v + 1]? = some (e.set ((((m : Nat) : Int) - 1).toNat) (e[(((m : Nat) : Int) - 1).toNat] + 1)) := by rw [← suc_at hf hi0_0, inc_some (m := m - 1) (k := N * N - m) hmd hda (by rw [hmm]; exact hin), hgd, htn, he0, hmm]
        have hvn : v + 1 < (allD N a).length := (List.getElem?_eq_some_iff.1 hnx).1
        have hcnt := hct.symm
        refine W_skip rfl ?_
        refine thenQ_n ?_
        refine W_reg rfl ?_
        refine Rv rfl rfl rfl (U_fieldAddr rfl) rfl rfl ?_
        refine Rv rfl rfl rfl (U_load1 rfl rfl rfl) rfl rfl ?_
        refine Rv rfl rfl rfl (U_move rfl) rfl rfl ?_
        have hx4 : (((m : Nat) : Int) - 1).toNat < e.length := by omega
        refine Rv rfl rfl rfl (U_indexS (j := (((m : Nat) : Int) - 1).toNat) rfl rfl (by omega) (by omega)) rfl rfl ?_
        refine Rv rfl rfl rfl (U_load1 rfl rfl (getM0 hx4)) rfl rfl ?_
        refine Rv rfl rfl rfl (U_add rfl rfl (w64 (by omega) (by omega))) rfl rfl ?_
        refine Rv rfl rfl rfl (U_indexS (j := (((m : Nat) : Int) - 1).toNat) rfl rfl (by omega) (by omega)) rfl rfl ?_
        refine Rn rfl rfl rfl (U_store (n := 1) (cs' := (e.set ((((m : Nat) : Int) - 1).toNat) (e[(((m : Nat) : Int) - 1).toNat] + 1)).map i64) rfl rfl rfl rfl rfl (stLt hx4) rfl setM) rfl ?_
        refine Re rfl ?_
        refine blkQ_n ?_
        refine thenQ_n ?_
        exact againTo (T' := [(1, i64 ((a : Nat) : Int)), (7, .ptr 1 0), (8, .ros ((reachedQ ks).map i64) ((reachedQ ks).length) none), (9, i64 (((t + 1) : Nat) : Int))]) (H' := [(0, some (.cells ((e.set ((((m : Nat) : Int) - 1).toNat) (e[(((m : Nat) : Int) - 1).toNat] + 1)).map i64) 3)), (1, some (.cells [i64 ((N : Nat) : Int), .slice 0 0 (N * N) (N * N)] 24))]) (n := 2) ((allD N a).length - (v + 1)) ⟨v + 1, e.set ((((m : Nat) : Int) - 1).toNat) (e[(((m : Nat) : Int) - 1).toNat] + 1), t + 1, hnx, hcnt, hvn, rfl, rfl⟩ (by omega) id ⟨eD rfl rfl, e_ rfl rfl, eD rfl rfl, eD rfl rfl, trivial⟩ ⟨rD (mapD (fun _ => rfl) _) rfl rfl, r_ rfl rfl rfl, trivial⟩ rfl rfl rfl rfl (fun _ _ => rfl)
  · have hct : frm N (reachedQ ks) ((allD N a).take (v + 1)) = t := by rw [frm_take hi0_0, if_neg hc0, ← hi0_1]; rfl
    refine W_skip rfl ?_
    refine thenQ_n ?_
    refine W_seq rfl ?_
    refine W_reg rfl ?_
    refine Rv rfl rfl rfl (U_fieldAddr rfl) rfl rfl ?_
    refine Rv rfl rfl rfl (U_load1 rfl rfl rfl) rfl rfl ?_
    refine Rv rfl rfl rfl (U_lenOf rfl len_slice) rfl rfl ?_
    refine Rv rfl rfl rfl (U_sub rfl rfl (w64 (by omega) (by omega))) rfl rfl ?_
    refine Rv rfl rfl rfl (U_assign rfl) rfl rfl ?_
    refine Re rfl ?_
    refine thenQ_n ?_
    refine W_seq rfl ?_
    refine W_block rfl ?_
    refine LoopTo (T' := [(1, i64 ((a : Nat) : Int)), (7, .ptr 1 0), (8, .ros ((reachedQ ks).map i64) ((reachedQ ks).length) none), (9, i64 ((t : Nat) : Int)), (12, i64 ((((N * N) : Nat) : Int) - 1))]) (H' := [(0, some (.cells (d.map i64) 3)), (1, some (.cells [i64 ((N : Nat) : Int), .slice 0 0 (N * N) (N * N)] 24))]) (n := 2) rfl (fun mz_ qz_ => ∃ (m : Nat) (e : List Int), e = d.take m ++ List.replicate (N * N - m) 0 ∧ (incR ((a : Nat) : Int) d.reverse = (incR ((a : Nat) : Int) (d.take m).reverse).map fun r => List.replicate (N * N - m) 0 ++ r) ∧ m ≤ N * N ∧ e.length = N * N ∧ mz_ = 0 + m ∧ qz_ = ⟨[(1, i64 ((a : Nat) : Int)), (7, .ptr 1 0), (8, .ros ((reachedQ ks).map i64) ((reachedQ ks).length) none), (9, i64 ((t : Nat) : Int)), (12, i64 (((m : Nat) : Int) - 1))], [(0, some (.cells (e.map i64) 3)), (1, some (.cells [i64 ((N : Nat) : Int), .slice 0 0 (N * N) (N * N)] 24))], 2, []⟩) ⟨N * N, d, (by rw [Nat.sub_self, List.take_of_length_le (by omega)]; simp), (by rw [Nat.sub_self, List.take_of_length_le (by omega)]; simp), (Nat.le_refl _), (by omega), rfl, rfl⟩ id ⟨eD rfl rfl, e_ rfl rfl, eD rfl rfl, eD rfl rfl, eD rfl rfl, trivial⟩ ⟨rD (mapD (fun _ => rfl) _) rfl rfl, r_ rfl rfl rfl, trivial⟩ rfl rfl rfl rfl (fun _ _ => rfl) ?_
    rintro _ _ ⟨m, e, hi1_0, hi1_1, hi1_2, hi1_3, rfl, rfl⟩
    have he0 := hi1_0
    have hin := hi1_1
    have hmn := hi1_2
    have hel := hi1_3
    refine W_seq rfl ?_
    refine W_seq rfl ?_
    refine Wjoin ⟨[(1, i64 ((a : Nat) : Int)), (7, .ptr 1 0), (8, .ros ((reachedQ ks).map i64) ((reachedQ ks).length) none), (9, i64 ((t : Nat) : Int)), (12, i64 (((m : Nat) : Int) - 1)), (46, .bool ((decide (0 ≤ (((m : Nat) : Int) - 1))) && (decide (e[(((m : Nat) : Int) - 1).toNat] = (((a : Nat) : Int) - 1)))))], [(0, some (.cells (e.map i64) 3)), (1, some (.cells [i64 ((N : Nat) : Int), .slice 0 0 (N * N) (N * N)] 24))], 2, []⟩ ?_ ?_
    · refine W_reg rfl ?_
      refine Rv rfl rfl rfl (U_move rfl) rfl rfl ?_
      refine Rv rfl rfl rfl (U_geq rfl rfl) rfl rfl ?_
      refine Rv rfl rfl rfl (U_move rfl) rfl rfl ?_
      refine Rsplit (t := 37) rfl (fun hg5 => ?_) (fun hg5 => ?_)
      · rw [hg5]
        have hg5' : 0 ≤ (((m : Nat) : Int) - 1) := of_decide_eq_true hg5
        refine Rv rfl rfl rfl (U_fieldAddr rfl) rfl rfl ?_
        refine Rv rfl rfl rfl (U_load1 rfl rfl rfl) rfl rfl ?_
        refine Rv rfl rfl rfl (U_move rfl) rfl rfl ?_
        have hx6 : (((m : Nat) : Int) - 1).toNat < e.length := by omega
        refine Rv rfl rfl rfl (U_indexS (j := (((m : Nat) : Int) - 1).toNat) rfl rfl (by omega) (by omega)) rfl rfl ?_
        refine Rv rfl rfl rfl (U_load1 rfl rfl (getM0 hx6)) rfl rfl ?_
        refine Rv rfl rfl rfl (U_move rfl) rfl rfl ?_
        refine Rv rfl rfl rfl (U_sub rfl rfl (w64 (by omega) (by omega))) rfl rfl ?_
        refine Rv rfl rfl rfl (U_eql rfl rfl) rfl rfl ?_
        refine Rv rfl rfl rfl (U_pick_t rfl rfl) rfl rfl ?_
        refine Re rfl ?_
        exact joinTo id ⟨eD rfl rfl, e_ rfl rfl, eD rfl rfl, eD rfl rfl, eD rfl rfl, eD rfl rfl, trivial⟩ ⟨rD (mapD (fun _ => rfl) _) rfl rfl, r_ rfl rfl rfl, trivial⟩ rfl rfl rfl rfl (fun _ _ => rfl)
      · rw [hg5]
        have hg5' : ¬ (0 ≤ (((m : Nat) : Int) - 1)) := of_decide_eq_false hg5
        refine Rs rfl rfl rfl rfl rfl ?_
        refine Rs rfl rfl rfl rfl rfl ?_
        refine Rs rfl rfl rfl rfl rfl ?_
        refine Rs rfl rfl rfl rfl rfl ?_
        refine Rs rfl rfl rfl rfl rfl ?_
        refine Rs rfl rfl rfl rfl rfl ?_
        refine Rs rfl rfl rfl rfl rfl ?_
        refine Rs rfl rfl rfl rfl rfl ?_
        refine Rv rfl rfl rfl (U_pick_f rfl rfl) rfl rfl ?_
        refine Re rfl ?_
        exact joinTo id ⟨eD rfl rfl, e_ rfl rfl, eD rfl rfl, eD rfl rfl, eD rfl rfl, eD rfl rfl, trivial⟩ ⟨rD (mapD (fun _ => rfl) _) rfl rfl, r_ rfl rfl rfl, trivial⟩ rfl rfl rfl rfl (fun _ _ => rfl)
    refine thenQ_n ?_
    refine Wcond rfl rfl (fun hc1 => ?_) (fun hc1 => ?_)
    · have hm0 : 0 < m := by simp at hc1; omega
      have hmm : m - 1 + 1 = m := by omega
      have hmd : m - 1 < d.length := by omega
      have htn : (((m : Nat) : Int) - 1).toNat = m - 1 := by omega
      have hie : (((m : Nat) : Int) - 1).toNat < e.length := by omega
      have hgd : e[(((m : Nat) : Int) - 1).toNat] = d[m - 1] := get_e he0 hm0 hmd htn hie
      have hda : d[m - 1] = ((a : Nat) : Int) - 1 := by rw [← hgd]; have h3 := hc1; simp only [Bool.and_eq_true, decide_eq_true_eq] at h3; exact h3.2
      have hst1 : e.set ((((m : Nat) : Int) - 1).toNat) 0 = d.take (m - 1) ++ List.replicate (N * N - (m - 1)) 0 := by rw [htn, he0]; have h3 := set_zero (d := d) (m := m - 1) (k := N * N - m) hmd; rw [hmm, show N * N - m + 1 = N * N - (m - 1) by omega] at h3; exact h3
      have hst2 : incR ((a : Nat) : Int) d.reverse = (incR ((a : Nat) : Int) (d.take (m - 1)).reverse).map fun r => List.replicate (N * N - (m - 1)) 0 ++ r := by have h3 := inc_zero (k := N * N - m) hmd hda (by rw [hmm]; exact hin); rw [show N * N - m + 1 = N * N - (m - 1) by omega] at h3; exact h3
      refine W_skip rfl ?_
      refine thenQ_n ?_
      refine W_block rfl ?_
      refine W_seq rfl ?_
      refine W_reg rfl ?_
      refine Rv rfl rfl rfl (U_fieldAddr rfl) rfl rfl ?_
      refine Rv rfl rfl rfl (U_load1 rfl rfl rfl) rfl rfl ?_
      refine Rv rfl rfl rfl (U_move rfl) rfl rfl ?_
      have hx7 : (((m : Nat) : Int) - 1).toNat < e.length := by omega
      refine Rv rfl rfl rfl (U_indexS (j := (((m : Nat) : Int) - 1).toNat) rfl rfl (by omega) (by omega)) rfl rfl ?_
      refine Rn rfl rfl rfl (U_store (n := 1) (cs' := (e.set ((((m : Nat) : Int) - 1).toNat) 0).map i64) rfl rfl rfl rfl rfl (stLt hx7) rfl setM) rfl ?_
      refine Re rfl ?_
      refine thenQ_n ?_
      refine W_reg rfl ?_
      refine Rv rfl rfl rfl (U_move rfl) rfl rfl ?_
      refine Rv rfl rfl rfl (U_sub rfl rfl (w64e (m := (((m - 1 : Nat)) : Int) - 1) (by omega) (by omega) (by omega))) rfl rfl ?_
      refine Rv rfl rfl rfl (U_assign rfl) rfl rfl ?_
      refine Re rfl ?_
      refine blkQ_n ?_
      refine thenQ_n ?_
      exact againTo (T' := [(1, i64 ((a : Nat) : Int)), (7, .ptr 1 0), (8, .ros ((reachedQ ks).map i64) ((reachedQ ks).length) none), (9, i64 ((t : Nat) : Int)), (12, i64 ((((m - 1) : Nat) : Int) - 1))]) (H' := [(0, some (.cells ((e.set ((((m : Nat) : Int) - 1).toNat) 0).map i64) 3)), (1, some (.cells [i64 ((N : Nat) : Int), .slice 0 0 (N * N) (N * N)] 24))]) (n := 2) (0 + (m - 1)) ⟨m - 1, e.set ((((m : Nat) : Int) - 1).toNat) 0, hst1, hst2, (by omega), (by simpa using hi1_3), rfl, rfl⟩ (by omega) id ⟨eD rfl rfl, e_ rfl rfl, eD rfl rfl, eD rfl rfl, eD rfl rfl, trivial⟩ ⟨rD (mapD (fun _ => rfl) _) rfl rfl, r_ rfl rfl rfl, trivial⟩ rfl rfl rfl rfl (fun _ _ => rfl)
    · have hc1' := Bool.eq_false_iff.1 hc1
      refine W_exit rfl ?_
      refine thenQ_x ?_
      refine thenQ_x ?_
      refine blkQ_x rfl ?_
      refine thenQ_n ?_
      refine W_seq rfl ?_
      refine W_seq rfl ?_
      refine W_reg rfl ?_
      refine Rv rfl rfl rfl (U_move rfl) rfl rfl ?_
      refine Rv rfl rfl rfl (U_lss rfl rfl) rfl rfl ?_
      refine Re rfl ?_
      refine thenQ_n ?_
      refine WcondP rfl rfl (fun hc2 => ?_) (fun hc2 => ?_)
      · have hm0 : m = 0 := by omega
        have hsn : sucL ((a : Nat) : Int) d = none := inc_end (k := N * N - m) (by have h3 := hin; rw [hm0] at h3 ⊢; exact h3)
        have hnn := suc_at hf hi0_0
        rw [hsn] at hnn
        have hall : (allD N a).take (v + 1) = allD N a := List.take_of_length_le (List.getElem?_eq_none_iff.1 hnn.symm)
        have hres : ((cntT N a (reachedQ ks) : Nat)) = frm N (reachedQ ks) ((allD N a).take (v + 1)) := by rw [hall, frm_eq hf hG]
        rw [hct] at hres
        refine W_seq rfl ?_
        refine W_reg rfl ?_
        refine Rv rfl rfl rfl (U_move rfl) rfl rfl ?_
        refine Rv rfl rfl rfl (U_assign rfl) rfl rfl ?_
        refine Re rfl ?_
        refine thenQ_n ?_
        refine W_ret rfl ?_
        refine thenQ_r ?_
        refine blkQ_r ?_
        refine thenQ_r ?_
        refine blkQ_r ?_
        exact retL (rlT rfl rl0) (by first | rfl | (simp only [packA]; rw [hres]; first | done | rfl)) rfl
      · have hm0 : 0 < m := by omega
        have hmm : m - 1 + 1 = m := by omega
        have hmd : m - 1 < d.length := by omega
        have htn : (((m : Nat) : Int) - 1).toNat = m - 1 := by omega
        have hie : (((m : Nat) : Int) - 1).toNat < e.length := by omega
        have hgd : e[(((m : Nat) : Int) - 1).toNat] = d[m - 1] := get_e he0 hm0 hmd htn hie
        have hda : d[m - 1] ≠ ((a : Nat) : Int) - 1 := by rw [← hgd]; intro h3; apply Bool.eq_false_iff.1 hc1; simp only [Bool.and_eq_true, decide_eq_true_eq]; exact ⟨by omega, h3⟩
        have hdb := hvd.bd _ (List.getElem_mem hmd)
        have heb : 0 ≤ e[(((m : Nat) : Int) - 1).toNat] ∧ e[(((m : Nat) : Int) - 1).toNat] ≤ 3 := by rw [hgd]; exact hdb
        have hnx : (allD N a)[v + 1]? = some (e.set ((((m : Nat) : Int) - 1).toNat) (e[(((m : Nat) : Int) - 1).toNat] + 1)) := by rw [← suc_at hf hi0_0, inc_some (m := m - 1) (k := N * N - m) hmd hda (by rw [hmm]; exact hin), hgd, htn, he0, hmm]
        have hvn : v + 1 < (allD N a).length := (List.getElem?_eq_some_iff.1 hnx).1
        have hcnt := hct.symm
        refine W_skip rfl ?_
        refine thenQ_n ?_
        refine W_reg rfl ?_
        refine Rv rfl rfl rfl (U_fieldAddr rfl) rfl rfl ?_
        refine Rv rfl rfl rfl (U_load1 rfl rfl rfl) rfl rfl ?_
        refine Rv rfl rfl rfl (U_move rfl) rfl rfl ?_
        have hx8 : (((m : Nat) : Int) - 1).toNat < e.length := by omega
        refine Rv rfl rfl rfl (U_indexS (j := (((m : Nat) : Int) - 1).toNat) rfl rfl (by omega) (by omega)) rfl rfl ?_
        refine Rv rfl rfl rfl (U_load1 rfl rfl (getM0 hx8)) rfl rfl ?_
        refine Rv rfl rfl rfl (U_add rfl rfl (w64 (by omega) (by omega))) rfl rfl ?_
        refine Rv rfl rfl rfl (U_indexS (j := (((m : Nat) : Int) - 1).toNat) rfl rfl (by omega) (by omega)) rfl rfl ?_
        refine Rn rfl rfl rfl (U_store (n := 1) (cs' := (e.set ((((m : Nat) : Int) - 1).toNat) (e[(((m : Nat) : Int) - 1).toNat] + 1)).map i64) rfl rfl rfl rfl rfl (stLt hx8) rfl setM) rfl ?_
        refine Re rfl ?_
        refine blkQ_n ?_
        refine thenQ_n ?_
        exact againTo (T' := [(1, i64 ((a : Nat) : Int)), (7, .ptr 1 0), (8, .ros ((reachedQ ks).map i64) ((reachedQ ks).length) none), (9, i64 ((t : Nat) : Int))]) (H' := [(0, some (.cells ((e.set ((((m : Nat) : Int) - 1).toNat) (e[(((m : Nat) : Int) - 1).toNat] + 1)).map i64) 3)), (1, some (.cells [i64 ((N : Nat) : Int), .slice 0 0 (N * N) (N * N)] 24))]) (n := 2) ((allD N a).length - (v + 1)) ⟨v + 1, e.set ((((m : Nat) : Int) - 1).toNat) (e[(((m : Nat) : Int) - 1).toNat] + 1), t, hnx, hcnt, hvn, rfl, rfl⟩ (by omega) id ⟨eD rfl rfl, e_ rfl rfl, eD rfl rfl, eD rfl rfl, trivial⟩ ⟨rD (mapD (fun _ => rfl) _) rfl rfl, r_ rfl rfl rfl, trivial⟩ rfl rfl rfl rfl (fun _ _ => rfl)
end Go.Proofs.Ythoodfiacfmhgaa
end

section
/- Counts. -/
namespace Go.Proofs.Ythoodfiacfmhgaa
set_option maxRecDepth 20000
open Go.AE
theorem few_mem {N a : Nat} (h : 1 ≤ N) (h2 : 1 ≤ a ∧ a ≤ 4) (h3 : N < 3 ∨ N = 3 ∧ a < 3) : (N, a) ∈ fewP := by
  have h4 : N = 1 ∨ N = 2 ∨ N = 3 := by omega
  have h5 : a = 1 ∨ a = 2 ∨ a = 3 ∨ a = 4 := by omega
  rcases h4 with rfl | rfl | rfl <;> rcases h5 with rfl | rfl | rfl | rfl <;> first | decide | omega
theorem formsI_p (n a : Int) (ks : List Int) (c : Option Nat) (h : cntE n a ks = 0) (hs : n < 3 ∨ n = 3 ∧ a < 3) : Pure Try.prog 49 [i64 n, i64 a, intsA ks c] (i64 (cntR n a ks)) := by
  obtain ⟨h1, h2, h3⟩ := cntE_0 h
  have hok := chkK_ok h3
  obtain ⟨N, rfl⟩ : ∃ N : Nat, n = N := ⟨n.toNat, by omega⟩
  obtain ⟨A, rfl⟩ : ∃ A : Nat, a = A := ⟨a.toNat, by omega⟩
  rw [(cntG (by omega) (by omega) hok).1]
  exact forms_p N A (few_mem (by omega) (by omega) (by omega)) ks c hok
theorem plateCounts_p (n a : Int) (ks : List Int) (c : Option Nat) : Pure Try.prog 8 [i64 n, i64 a, intsA ks c] (.bool true) := by
  refine pure_of_body Try.func8 (c := body Try.f8) rfl (by simp [Try.ntmps8]) fun w0 Φ0 => ?_
  refine W_seq rfl ?_
  refine W_reg rfl ?_
  refine Rv rfl rfl rfl (U_assign rfl) rfl rfl ?_
  refine Re rfl ?_
  refine thenQ_n ?_
  refine W_seq rfl ?_
  refine W_seq rfl ?_
  refine W_reg rfl ?_
  refine Rv rfl rfl rfl (U_move rfl) rfl rfl ?_
  refine Rv rfl rfl rfl (U_lenOf rfl len_ros) rfl rfl ?_
  refine Rv rfl rfl rfl (U_gtr rfl rfl) rfl rfl ?_
  refine Re rfl ?_
  refine thenQ_n ?_
  refine WcondP rfl rfl (fun hc0 => ?_) (fun hc0 => ?_)
  · refine W_seq rfl ?_
    refine W_reg rfl ?_
    refine Rv rfl rfl rfl (U_call rfl rfl (works_p) rfl) rfl rfl ?_
    refine Rv rfl rfl rfl (U_assign rfl) rfl rfl ?_
    refine Re rfl ?_
    refine thenQ_n ?_
    refine W_ret rfl ?_
    refine thenQ_r ?_
    exact retL (rlT rfl rl0) rfl rfl
  · have hkl : ks.length ≤ 20 := by omega
    refine W_skip rfl ?_
    refine thenQ_n ?_
    refine W_seq rfl ?_
    refine W_reg rfl ?_
    refine Rv rfl rfl rfl (U_move rfl) rfl rfl ?_
    refine Rv rfl rfl rfl (U_move rfl) rfl rfl ?_
    refine Rv rfl rfl rfl (U_move rfl) rfl rfl ?_
    refine Rv rfl rfl rfl (U_call rfl rfl (count_p n a ks c (by first | assumption | omega | exact Sz.le | (simp; done) | (simp; omega))) rfl) rfl rfl ?_
    refine Rv rfl rfl rfl (U_move rfl) rfl rfl ?_
    refine Rv rfl rfl rfl (U_extract rfl rfl) rfl rfl ?_
    refine Rv rfl rfl rfl (U_extract rfl rfl) rfl rfl ?_
    refine Rv rfl rfl rfl (U_assign rfl) rfl rfl ?_
    refine Rv rfl rfl rfl (U_assign rfl) rfl rfl ?_
    refine Re rfl ?_
    refine thenQ_n ?_
    refine W_seq rfl ?_
    refine W_reg rfl ?_
    refine Rv rfl rfl rfl (U_move rfl) rfl rfl ?_
    refine Rv rfl rfl rfl (U_move rfl) rfl rfl ?_
    refine Rv rfl rfl rfl (U_move rfl) rfl rfl ?_
    refine Rv rfl rfl rfl (U_call rfl rfl (countR_p n a ks c (by first | assumption | omega | exact Sz.le | (simp; done) | (simp; omega))) rfl) rfl rfl ?_
    refine Rv rfl rfl rfl (U_move rfl) rfl rfl ?_
    refine Rv rfl rfl rfl (U_extract rfl rfl) rfl rfl ?_
    refine Rv rfl rfl rfl (U_extract rfl rfl) rfl rfl ?_
    refine Rv rfl rfl rfl (U_assign rfl) rfl rfl ?_
    refine Rv rfl rfl rfl (U_assign rfl) rfl rfl ?_
    refine Re rfl ?_
    refine thenQ_n ?_
    refine W_seq rfl ?_
    refine W_seq rfl ?_
    refine W_reg rfl ?_
    refine Rv rfl rfl rfl (U_move rfl) rfl rfl ?_
    refine Rv rfl rfl rfl (U_move rfl) rfl rfl ?_
    refine Rv rfl rfl rfl (U_neqS rfl rfl) rfl rfl ?_
    refine Rv rfl rfl rfl (U_move rfl) rfl rfl ?_
    refine Rv rfl rfl rfl (U_move rfl) rfl rfl ?_
    refine Rv rfl rfl rfl (U_move rfl) rfl rfl ?_
    refine Rv rfl rfl rfl (U_neqS rfl rfl) rfl rfl ?_
    refine Rv rfl rfl rfl (U_pick_f rfl rfl) rfl rfl ?_
    refine Re rfl ?_
    refine thenQ_n ?_
    refine Wcond rfl rfl (fun h => nomatch h) (fun _ => ?_)
    refine W_skip rfl ?_
    refine thenQ_n ?_
    refine W_seq rfl ?_
    refine W_seq rfl ?_
    refine Wjoin ⟨[(0, i64 n), (1, i64 a), (2, .ros (ks.map i64) ks.length c), (7, i64 (cntR n a ks)), (50, .bool ((decide ((cntE n a ks) = 0)) && ((decide (n < 3)) || ((decide (n = 3)) && (decide (a < 3))))))], [], 0, []⟩ ?_ ?_
    · refine W_reg rfl ?_
      refine Rv rfl rfl rfl (U_move rfl) rfl rfl ?_
      refine Rv rfl rfl rfl (U_eql rfl rfl) rfl rfl ?_
      refine Rv rfl rfl rfl (U_move rfl) rfl rfl ?_
      refine Rsplit (t := 39) rfl (fun hg1 => ?_) (fun hg1 => ?_)
      · rw [hg1]
        have hg1' : (cntE n a ks) = 0 := of_decide_eq_true hg1
        refine Rv rfl rfl rfl (U_move rfl) rfl rfl ?_
        refine Rv rfl rfl rfl (U_lss rfl rfl) rfl rfl ?_
        refine Rv rfl rfl rfl (U_move rfl) rfl rfl ?_
        refine Rsplit (t := 42) rfl (fun hg2 => ?_) (fun hg2 => ?_)
        · rw [hg2]
          have hg2' : n < 3 := of_decide_eq_true hg2
          refine Rs rfl rfl rfl rfl rfl ?_
          refine Rs rfl rfl rfl rfl rfl ?_
          refine Rs rfl rfl rfl rfl rfl ?_
          refine Rs rfl rfl rfl rfl rfl ?_
          refine Rs rfl rfl rfl rfl rfl ?_
          refine Rs rfl rfl rfl rfl rfl ?_
          refine Rv rfl rfl rfl (U_pick_t rfl rfl) rfl rfl ?_
          refine Rv rfl rfl rfl (U_pick_t rfl rfl) rfl rfl ?_
          refine Re rfl ?_
          exact joinTo id ⟨eD rfl rfl, eD rfl rfl, eD rfl rfl, eD rfl rfl, eD rfl rfl, trivial⟩ trivial rfl rfl rfl rfl (fun _ _ => rfl)
        · rw [hg2]
          have hg2' : ¬ (n < 3) := of_decide_eq_false hg2
          refine Rv rfl rfl rfl (U_move rfl) rfl rfl ?_
          refine Rv rfl rfl rfl (U_eql rfl rfl) rfl rfl ?_
          refine Rv rfl rfl rfl (U_move rfl) rfl rfl ?_
          refine Rsplit (t := 45) rfl (fun hg3 => ?_) (fun hg3 => ?_)
          · rw [hg3]
            have hg3' : n = 3 := of_decide_eq_true hg3
            refine Rv rfl rfl rfl (U_move rfl) rfl rfl ?_
            refine Rv rfl rfl rfl (U_lss rfl rfl) rfl rfl ?_
            refine Rv rfl rfl rfl (U_pick_t rfl rfl) rfl rfl ?_
            refine Rv rfl rfl rfl (U_pick_f rfl rfl) rfl rfl ?_
            refine Rv rfl rfl rfl (U_pick_t rfl rfl) rfl rfl ?_
            refine Re rfl ?_
            exact joinTo id ⟨eD rfl rfl, eD rfl rfl, eD rfl rfl, eD rfl rfl, eD rfl rfl, trivial⟩ trivial rfl rfl rfl rfl (fun _ _ => rfl)
          · rw [hg3]
            have hg3' : ¬ (n = 3) := of_decide_eq_false hg3
            refine Rs rfl rfl rfl rfl rfl ?_
            refine Rs rfl rfl rfl rfl rfl ?_
            refine Rv rfl rfl rfl (U_pick_f rfl rfl) rfl rfl ?_
            refine Rv rfl rfl rfl (U_pick_f rfl rfl) rfl rfl ?_
            refine Rv rfl rfl rfl (U_pick_t rfl rfl) rfl rfl ?_
            refine Re rfl ?_
            exact joinTo id ⟨eD rfl rfl, eD rfl rfl, eD rfl rfl, eD rfl rfl, eD rfl rfl, trivial⟩ trivial rfl rfl rfl rfl (fun _ _ => rfl)
      · rw [hg1]
        have hg1' : ¬ ((cntE n a ks) = 0) := of_decide_eq_false hg1
        refine Rs rfl rfl rfl rfl rfl ?_
        refine Rs rfl rfl rfl rfl rfl ?_
        refine Rs rfl rfl rfl rfl rfl ?_
        refine Rs rfl rfl rfl rfl rfl ?_
        refine Rs rfl rfl rfl rfl rfl ?_
        refine Rs rfl rfl rfl rfl rfl ?_
        refine Rs rfl rfl rfl rfl rfl ?_
        refine Rs rfl rfl rfl rfl rfl ?_
        refine Rs rfl rfl rfl rfl rfl ?_
        refine Rs rfl rfl rfl rfl rfl ?_
        refine Rv rfl rfl rfl (U_pick_f rfl rfl) rfl rfl ?_
        refine Re rfl ?_
        exact joinTo id ⟨eD rfl rfl, eD rfl rfl, eD rfl rfl, eD rfl rfl, eD rfl rfl, trivial⟩ trivial rfl rfl rfl rfl (fun _ _ => rfl)
    refine thenQ_n ?_
    refine Wcond rfl rfl (fun hc2 => ?_) (fun hc2 => ?_)
    · have h50 : cntE n a ks = 0 ∧ (n < 3 ∨ n = 3 ∧ a < 3) := by simp at hc2; omega
      refine W_seq rfl ?_
      refine W_reg rfl ?_
      refine Rv rfl rfl rfl (U_move rfl) rfl rfl ?_
      refine Rv rfl rfl rfl (U_move rfl) rfl rfl ?_
      refine Rv rfl rfl rfl (U_move rfl) rfl rfl ?_
      refine Rv rfl rfl rfl (U_move rfl) rfl rfl ?_
      refine Rv rfl rfl rfl (U_call rfl rfl (formsI_p n a ks c h50.1 h50.2) rfl) rfl rfl ?_
      refine Rv rfl rfl rfl (U_eqlS rfl rfl) rfl rfl ?_
      refine Rv rfl rfl rfl (U_move rfl) rfl rfl ?_
      refine Rv rfl rfl rfl (U_call rfl rfl (works_p) rfl) rfl rfl ?_
      refine Rv rfl rfl rfl (U_pick_t rfl rfl) rfl rfl ?_
      refine Rv rfl rfl rfl (U_assign rfl) rfl rfl ?_
      refine Re rfl ?_
      refine thenQ_n ?_
      refine W_ret rfl ?_
      refine thenQ_r ?_
      exact retL (rlT rfl rl0) rfl rfl
    · have hc2' := Bool.eq_false_iff.1 hc2
      refine W_skip rfl ?_
      refine thenQ_n ?_
      refine W_seq rfl ?_
      refine W_reg rfl ?_
      refine Rv rfl rfl rfl (U_call rfl rfl (works_p) rfl) rfl rfl ?_
      refine Rv rfl rfl rfl (U_assign rfl) rfl rfl ?_
      refine Re rfl ?_
      refine thenQ_n ?_
      refine W_ret rfl ?_
      exact retL (rlT rfl rl0) rfl rfl
end Go.Proofs.Ythoodfiacfmhgaa
end
