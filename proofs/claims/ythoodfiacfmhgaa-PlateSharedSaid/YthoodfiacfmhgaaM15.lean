import Derived.Test.YthoodfiacfmhgaaM11
set_option linter.all false
section
/- Plates to which kinds move a plate: plain laws. -/
namespace Go.Proofs.Ythoodfiacfmhgaa
set_option maxRecDepth 20000
open Go.AE
theorem flat_get {α : Type} {f : α → List AV} {z : Nat} (hf : ∀ e, (f e).length = z) : ∀ {es : List α} {k : Nat} (h : k < es.length) (j : Nat), j < z → (es.flatMap f)[k * z + j]? = (f es[k])[j]?
  | [], k, h, _, _ => by simp at h
  | e :: es, 0, _, j, hj => by simp only [List.flatMap_cons, List.getElem_cons_zero, Nat.zero_mul, Nat.zero_add]; rw [List.getElem?_append_left (by rw [hf]; exact hj)]
  | e :: es, k + 1, h, j, hj => by
    simp only [List.flatMap_cons, List.getElem_cons_succ]
    rw [List.getElem?_append_right (by rw [hf, Nat.add_mul]; omega), hf, show (k + 1) * z + j - z = k * z + j by rw [Nat.add_mul]; omega]
    exact flat_get hf (by simpa using h) j hj
def plC (p : Pl) : List AV := [i64 p.n, intsA p.ds none]
theorem plG0 {l : List Pl} {k : Nat} (h : k < l.length) : (l.flatMap plC)[k * 2]? = some (i64 l[k].n) := by have := flat_get (f := plC) (z := 2) (fun _ => rfl) h 0 (by omega); simpa [plC] using this
theorem plG1 {l : List Pl} {k : Nat} (h : k < l.length) : (l.flatMap plC)[k * 2 + 1]? = some (intsA l[k].ds none) := by have := flat_get (f := plC) (z := 2) (fun _ => rfl) h 1 (by omega); simpa [plC] using this
theorem plZ0 {l : List Pl} {k : Nat} (h : k < l.length) : (l.flatMap plC)[0 + k * 2]? = some (i64 l[k].n) := by rw [Nat.zero_add]; exact plG0 h
theorem plZ1 {l : List Pl} {k : Nat} (h : k < l.length) : (l.flatMap plC)[0 + k * 2 + 1]? = some (intsA l[k].ds none) := by rw [Nat.zero_add]; exact plG1 h
/-- The motions under which a plate stays are a group. -/
theorem sub_all : (allK.all fun S => !(decide (0 ∈ S) && S.all fun a => S.all fun b => decide (aft a b ∈ S)) || Gs.contains S) = true := by decide +kernel
theorem stays_mem {p : Pl} {N : Nat} (hv : VP p N) {a : Int} : a ∈ staysP p ↔ (0 ≤ a ∧ a < 8) ∧ movP p a = p := by
  constructor
  · intro h
    obtain ⟨i, hi, hp, rfl⟩ := filt_mem.1 h
    exact ⟨by omega, pl_ext rfl (of_decide_eq_true hp)⟩
  · rintro ⟨h8, h⟩
    exact filt_mem.2 ⟨a.toNat, by omega, by rw [Int.toNat_of_nonneg h8.1]; exact decide_eq_true (by rw [h]), by omega⟩
theorem stays_G {p : Pl} {N : Nat} (hv : VP p N) : staysP p ∈ Gs := by
  have h := List.all_eq_true.1 sub_all (staysP p) (okK_all (stays_ok p))
  rw [Bool.or_eq_true, Bool.not_eq_true'] at h
  rcases h with h | h
  · refine absurd ?_ (Bool.eq_false_iff.1 h)
    rw [Bool.and_eq_true]
    refine ⟨decide_eq_true ((stays_mem hv).2 ⟨by omega, movP_0 hv⟩), List.all_eq_true.2 fun a ha => List.all_eq_true.2 fun b hb => decide_eq_true ?_⟩
    obtain ⟨h1, h2⟩ := (stays_mem hv).1 ha
    obtain ⟨h3, h4⟩ := (stays_mem hv).1 hb
    refine (stays_mem hv).2 ⟨after_in h1 h3, ?_⟩
    rw [← movP_aft hv h1 h3, h2, h4]
  · simpa using h
theorem reached_self_all : (Gs.all fun S => decide (reachedQ S = S) && decide (8 % S.length = 0)) = true := by decide +kernel
theorem reached_self {S : List Int} (h : S ∈ Gs) : reachedQ S = S ∧ 8 % S.length = 0 := by
  have := List.all_eq_true.1 reached_self_all S h
  rw [Bool.and_eq_true] at this
  exact ⟨of_decide_eq_true this.1, of_decide_eq_true this.2⟩
/-- Motions that bring a plate to different plates. -/
def disM (S : List Int) : List Int → List Int → List Int
  | acc, [] => acc
  | acc, g :: l => disM S (if (acc.any fun a => decide (aft a (invM g) ∈ S)) = true then acc else acc ++ [g]) l
def disP (p : Pl) : List Pl → List Int → List Pl
  | acc, [] => acc
  | acc, g :: l => disP p (if (acc.any fun q => samP q (movP p g)) = true then acc else acc ++ [movP p g]) l
theorem disM_all : (Gs.all fun S => Gs.all fun G => decide ((disM S [] G).length * (G.filter fun g => decide (g ∈ S)).length = G.length)) = true := by decide +kernel
theorem sam_iff {p q : Pl} : samP p q = true ↔ p = q := by
  constructor
  · intro h; simp only [samP, Bool.and_eq_true, decide_eq_true_eq] at h; exact pl_ext h.1 h.2
  · rintro rfl; exact samP_self p
theorem mov_same {p : Pl} {N : Nat} (hv : VP p N) {a g : Int} (ha : 0 ≤ a ∧ a < 8) (hg : 0 ≤ g ∧ g < 8) : samP (movP p a) (movP p g) = decide (aft a (invM g) ∈ staysP p) := by
  rw [Bool.eq_iff_iff, sam_iff, decide_eq_true_eq, stays_mem hv]
  constructor
  · intro h
    refine ⟨after_in ha (inv_in hg), ?_⟩
    rw [← movP_aft hv ha (inv_in hg), h, movP_back hv hg]
  · rintro ⟨_, h⟩
    have h2 : movP (movP p (aft a (invM g))) g = movP p g := congrArg (fun q => movP q g) h
    rw [movP_aft hv (after_in ha (inv_in hg)) hg, aft_assoc ha (inv_in hg) hg, (aft_inv1 hg).2, (aft_0 ha).2] at h2
    exact h2
theorem disP_M {p : Pl} {N : Nat} (hv : VP p N) : ∀ (l acc : List Int), (∀ a ∈ acc, 0 ≤ a ∧ a < 8) → (∀ a ∈ l, 0 ≤ a ∧ a < 8) → disP p (acc.map (movP p)) l = (disM (staysP p) acc l).map (movP p)
  | [], acc, _, _ => rfl
  | g :: l, acc, ha, hl => by
    have hg := hl g (by simp)
    have e : ((acc.map (movP p)).any fun q => samP q (movP p g)) = acc.any fun a => decide (aft a (invM g) ∈ staysP p) := by
      rw [List.any_map, Bool.eq_iff_iff, List.any_eq_true, List.any_eq_true]
      exact ⟨fun ⟨a, h, h2⟩ => ⟨a, h, by rw [← mov_same hv (ha a h) hg]; exact h2⟩, fun ⟨a, h, h2⟩ => ⟨a, h, by rw [← mov_same hv (ha a h) hg] at h2; exact h2⟩⟩
    rw [disP, disM, e]
    by_cases h : (acc.any fun a => decide (aft a (invM g) ∈ staysP p)) = true
    · rw [if_pos h, if_pos h]
      exact disP_M hv l acc ha fun a h => hl a (List.mem_cons_of_mem _ h)
    · rw [if_neg h, if_neg h]
      have := disP_M hv l (acc ++ [g]) (fun a h => by rcases List.mem_append.1 h with h | h; exact ha a h; rw [List.mem_singleton.1 h]; exact hg) fun a h => hl a (List.mem_cons_of_mem _ h)
      rw [← this, List.map_append]; rfl
/-- How many motions of a list leave a plate as it is. -/
def stN (p : Pl) (l : List Int) : Nat := (l.filter fun g => samP (movP p g) p).length
theorem shared {p : Pl} {N : Nat} (hv : VP p N) {G : List Int} (hG : G ∈ Gs) : (disP p [] G).length * stN p G = G.length := by
  have h1 := disP_M hv G [] (fun a h => absurd h List.not_mem_nil) fun a h => (G_inv hG h).2
  have h2 := List.all_eq_true.1 (List.all_eq_true.1 disM_all (staysP p) (stays_G hv)) G hG
  simp only [decide_eq_true_eq] at h2
  have h3 : stN p G = (G.filter fun g => decide (g ∈ staysP p)).length := by
    unfold stN
    congr 1
    refine List.filter_congr fun g hg => ?_
    have h8 := (G_inv hG hg).2
    rw [Bool.eq_iff_iff, sam_iff, decide_eq_true_eq, stays_mem hv]
    exact ⟨fun h => ⟨h8, h⟩, fun h => h.2⟩
  rw [List.map_nil] at h1
  rw [h1, List.length_map, h3]; exact h2
theorem disP_take {p : Pl} {G : List Int} {k : Nat} (h : k < G.length) (acc : List Pl) : disP p acc (G.take (k + 1)) = if ((disP p acc (G.take k)).any fun q => samP q (movP p G[k])) = true then disP p acc (G.take k) else disP p acc (G.take k) ++ [movP p G[k]] := by
  have : ∀ (l : List Int) (g : Int) (acc : List Pl), disP p acc (l ++ [g]) = if ((disP p acc l).any fun q => samP q (movP p g)) = true then disP p acc l else disP p acc l ++ [movP p g] := by
    intro l g
    induction l with
    | nil => intro acc; rfl
    | cons x l ih => intro acc; rw [List.cons_append, disP, ih]; rfl
  rw [List.take_succ_eq_append_getElem h]; exact this _ _ _
theorem stN_take {p : Pl} {G : List Int} {k : Nat} (h : k < G.length) : stN p (G.take (k + 1)) = stN p (G.take k) + (if samP (movP p G[k]) p = true then 1 else 0) := by
  unfold stN
  rw [List.take_succ_eq_append_getElem h, List.filter_append, List.length_append]
  congr 1
  split
  · rename_i h1; simp [h1]
  · rename_i h1; simp [h1]
theorem stN_le {p : Pl} {l : List Int} : stN p l ≤ l.length := List.length_filter_le _ _
theorem disP_le {p : Pl} : ∀ (l : List Int) (acc : List Pl), (disP p acc l).length ≤ acc.length + l.length
  | [], acc => Nat.le_refl _
  | g :: l, acc => by
    rw [disP]
    have := disP_le (p := p) l (if (acc.any fun q => samP q (movP p g)) = true then acc else acc ++ [movP p g])
    by_cases h : (acc.any fun q => samP q (movP p g)) = true
    · rw [if_pos h] at this ⊢; rw [List.length_cons]; omega
    · rw [if_neg h] at this ⊢; rw [List.length_append] at this; simp only [List.length_cons, List.length_nil] at this ⊢; omega
theorem disP_mem {p : Pl} {q : Pl} : ∀ {l : List Int} {acc : List Pl}, q ∈ disP p acc l → q ∈ acc ∨ ∃ g ∈ l, q = movP p g
  | [], acc, h => .inl h
  | g :: l, acc, h => by
    rw [disP] at h
    rcases disP_mem h with h | ⟨x, hx, e⟩
    · split at h
      · exact .inl h
      · rcases List.mem_append.1 h with h | h
        · exact .inl h
        · exact .inr ⟨g, by simp, List.mem_singleton.1 h⟩
    · exact .inr ⟨x, List.mem_cons_of_mem _ hx, e⟩
theorem staG_p (p : Pl) (c : Option Nat) (N : Nat) (hv : VP p N) : Pure Try.prog 21 [.agg [i64 p.n, intsA p.ds c]] (.tup [intsA (staysP p) none, i64 0]) := by
  have k := stays_p p c (vp_mil hv)
  rwa [staR, if_pos (vp_chk hv), vp_chk hv] at k
theorem hasS_p (p : Pl) (c : Option Nat) (N : Nat) (hv : VP p N) (g : Int) (hg : 0 ≤ g ∧ g < 8) (hl : (staysP p).length ≤ 1000000) : Pure Try.prog 54 [intsA (staysP p) c, i64 g] (.bool (samP (movP p g) p)) := by
  have k := has_p (staysP p) g c hl
  have e : ((staysP p).any fun y => decide (g = y)) = samP (movP p g) p := by
    rw [Bool.eq_iff_iff, sam_iff, List.any_eq_true]
    constructor
    · rintro ⟨x, hx, h⟩
      have h : g = x := of_decide_eq_true h
      rw [h]; exact ((stays_mem hv).1 hx).2
    · intro h; exact ⟨g, (stays_mem hv).2 ⟨hg, h⟩, by simp⟩
  rwa [e] at k
theorem reachedS_p (S : List Int) (c : Option Nat) (h : S ∈ Gs) (hok : okK 0 S = true) : Pure Try.prog 33 [intsA S c] (.tup [intsA S none, i64 0]) := by
  have k := reachedA_p S c (by have := okK_len hok; omega)
  rwa [reaR, if_pos (chkK_0 hok), chkK_0 hok, (reached_self h).1] at k
theorem chk0_p (S : List Int) (c : Option Nat) (hok : okK 0 S = true) : Pure Try.prog 58 [intsA S c] (i64 0) := by
  have k := chkKR_p S c (by have := okK_len hok; omega)
  rwa [chkK_0 hok] at k
end Go.Proofs.Ythoodfiacfmhgaa
end

section
/- Plates to which kinds move a plate. -/
namespace Go.Proofs.Ythoodfiacfmhgaa
set_option maxRecDepth 20000
open Go.AE
theorem plateShared0_p (p : Pl) (c : Option Nat) (b : Nat) (hf : (!(!grt p && decide (chkP p = 0))) = true) : Pure Try.prog 12 [plA p c, .int .u8 (b : Nat)] (.bool true) := by
  refine pure_of_body Try.func12 (c := body Try.f12) rfl (by simp [Try.ntmps12]) fun w0 Φ0 => ?_
  refine W_seq rfl ?_
  refine W_reg rfl ?_
  refine Rv rfl rfl rfl (U_boxF rfl rfl rfl) rfl rfl ?_
  refine Rv rfl rfl rfl (U_assign rfl) rfl rfl ?_
  refine Re rfl ?_
  refine thenQ_n ?_
  refine W_seq rfl ?_
  refine W_seq rfl ?_
  refine W_reg rfl ?_
  refine Rv rfl rfl rfl (U_load2 rfl rfl rfl rfl) rfl rfl ?_
  refine Rv rfl rfl rfl (U_call rfl rfl (fine_p p c) rfl) rfl rfl ?_
  refine Rv rfl rfl rfl (U_not rfl) rfl rfl ?_
  refine Re rfl ?_
  refine thenQ_n ?_
  refine Wcond rfl rfl (fun hc0 => ?_) (fun hc0 => absurd hc0 (by rw [hf]; simp))
  refine W_seq rfl ?_
  refine W_reg rfl ?_
  refine Rv rfl rfl rfl (U_call rfl rfl (works_p) rfl) rfl rfl ?_
  refine Rv rfl rfl rfl (U_assign rfl) rfl rfl ?_
  refine Re rfl ?_
  refine thenQ_n ?_
  refine W_ret rfl ?_
  refine thenQ_r ?_
  exact retL (rlT rfl rl0) rfl rfl
theorem plateShared1_p (p : Pl) (c : Option Nat) (b : Nat) (hb8 : b < 256) (N : Nat) (hv : VP p N) : Pure Try.prog 12 [plA p c, .int .u8 (b : Nat)] (.bool true) := by
  have hl1 := vp_mil hv
  have hok := kds_ok b
  obtain ⟨hr0, hr8⟩ := reached_len (ks := kdsQ b)
  have hSG := stays_G hv
  have hso := stays_ok p
  have hsl := okK_len hso
  have hG := reach_G hok
  have h00 : (0 : Int) ≤ 0 ∧ (0 : Int) < 8 := by omega
  have hsh := shared hv hG
  have h8m := (reached_self hG).2
  have hmz : (8 : Int) % (((reachedQ (kdsQ b)).length : Nat) : Int) = 0 := by exact_mod_cast h8m
  refine pure_of_body Try.func12 (c := body Try.f12) rfl (by simp [Try.ntmps12]) fun w0 Φ0 => ?_
  refine W_seq rfl ?_
  refine W_reg rfl ?_
  refine Rv rfl rfl rfl (U_boxF rfl rfl rfl) rfl rfl ?_
  refine Rv rfl rfl rfl (U_assign rfl) rfl rfl ?_
  refine Re rfl ?_
  refine thenQ_n ?_
  refine W_seq rfl ?_
  refine W_seq rfl ?_
  refine W_reg rfl ?_
  refine Rv rfl rfl rfl (U_load2 rfl rfl rfl rfl) rfl rfl ?_
  refine Rv rfl rfl rfl (U_call rfl rfl (fineG_p p c _ (by assumption)) rfl) rfl rfl ?_
  refine Rv rfl rfl rfl (U_not rfl) rfl rfl ?_
  refine Re rfl ?_
  refine thenQ_n ?_
  refine Wcond rfl rfl (fun h => nomatch h) (fun _ => ?_)
  refine W_skip rfl ?_
  refine thenQ_n ?_
  refine W_seq rfl ?_
  refine W_reg rfl ?_
  refine Rv rfl rfl rfl (U_move rfl) rfl rfl ?_
  refine Rv rfl rfl rfl (U_call rfl rfl (kinds_p b (by first | assumption | omega)) rfl) rfl rfl ?_
  refine Rv rfl rfl rfl (U_call rfl rfl (reachedG_p (kdsQ b) none (by assumption)) rfl) rfl rfl ?_
  refine Rv rfl rfl rfl (U_move rfl) rfl rfl ?_
  refine Rv rfl rfl rfl (U_extract rfl rfl) rfl rfl ?_
  refine Rv rfl rfl rfl (U_extract rfl rfl) rfl rfl ?_
  refine Rv rfl rfl rfl (U_assign rfl) rfl rfl ?_
  refine Rv rfl rfl rfl (U_assign rfl) rfl rfl ?_
  refine Re rfl ?_
  refine thenQ_n ?_
  refine W_seq rfl ?_
  refine W_reg rfl ?_
  refine Rv rfl rfl rfl (U_load2 rfl rfl rfl rfl) rfl rfl ?_
  refine Rv rfl rfl rfl (U_call rfl rfl (staG_p p c _ (by assumption)) rfl) rfl rfl ?_
  refine Rv rfl rfl rfl (U_move rfl) rfl rfl ?_
  refine Rv rfl rfl rfl (U_extract rfl rfl) rfl rfl ?_
  refine Rv rfl rfl rfl (U_extract rfl rfl) rfl rfl ?_
  refine Rv rfl rfl rfl (U_assign rfl) rfl rfl ?_
  refine Rv rfl rfl rfl (U_assign rfl) rfl rfl ?_
  refine Re rfl ?_
  refine thenQ_n ?_
  refine W_seq rfl ?_
  refine W_seq rfl ?_
  refine W_reg rfl ?_
  refine Rv rfl rfl rfl (U_move rfl) rfl rfl ?_
  refine Rv rfl rfl rfl (U_not rfl) rfl rfl ?_
  refine Rv rfl rfl rfl (U_move rfl) rfl rfl ?_
  refine Rv rfl rfl rfl (U_move rfl) rfl rfl ?_
  refine Rv rfl rfl rfl (U_neq rfl rfl) rfl rfl ?_
  refine Rv rfl rfl rfl (U_pick_f rfl rfl) rfl rfl ?_
  refine Rv rfl rfl rfl (U_move rfl) rfl rfl ?_
  refine Rv rfl rfl rfl (U_move rfl) rfl rfl ?_
  refine Rv rfl rfl rfl (U_call rfl rfl (chk0_p (staysP p) none (by assumption)) rfl) rfl rfl ?_
  refine Rv rfl rfl rfl (U_neq rfl rfl) rfl rfl ?_
  refine Rv rfl rfl rfl (U_pick_f rfl rfl) rfl rfl ?_
  refine Rv rfl rfl rfl (U_move rfl) rfl rfl ?_
  refine Rv rfl rfl rfl (U_move rfl) rfl rfl ?_
  refine Rv rfl rfl rfl (U_call rfl rfl (hasT_p (staysP p) 0 none (by omega) (G_0 hSG)) rfl) rfl rfl ?_
  refine Rv rfl rfl rfl (U_not rfl) rfl rfl ?_
  refine Rv rfl rfl rfl (U_pick_f rfl rfl) rfl rfl ?_
  refine Re rfl ?_
  refine thenQ_n ?_
  refine Wcond rfl rfl (fun h => nomatch h) (fun _ => ?_)
  refine W_skip rfl ?_
  refine thenQ_n ?_
  refine W_seq rfl ?_
  refine W_reg rfl ?_
  refine Rv rfl rfl rfl (U_assign rfl) rfl rfl ?_
  refine Re rfl ?_
  refine thenQ_n ?_
  refine W_seq rfl ?_
  refine W_reg rfl ?_
  refine Rv rfl rfl rfl (U_assign rfl) rfl rfl ?_
  refine Re rfl ?_
  refine thenQ_n ?_
  refine W_seq rfl ?_
  refine W_seq rfl ?_
  refine W_reg rfl ?_
  refine Rv rfl rfl rfl (U_assign rfl) rfl rfl ?_
  refine Re rfl ?_
  refine thenQ_n ?_
  refine W_block rfl ?_
  refine LoopTo (T' := [(2, .rop [i64 p.n, .ros (p.ds.map i64) p.ds.length c] 0), (5, .ros ((reachedQ (kdsQ b)).map i64) ((reachedQ (kdsQ b)).length) none), (7, .ros ((staysP p).map i64) ((staysP p).length) none), (9, .out 0 [].length 2), (10, i64 ((0 : Nat) : Int)), (11, i64 ((0 : Nat) : Int))]) (H' := [(0, outB ([].flatMap plC) 24 [].length)]) (n := 1) rfl (fun mz_ qz_ => ∃ (k : Nat) (l : List Pl) (t : Nat), k ≤ (reachedQ (kdsQ b)).length ∧ l = disP p [] ((reachedQ (kdsQ b)).take k) ∧ t = stN p ((reachedQ (kdsQ b)).take k) ∧ mz_ = (reachedQ (kdsQ b)).length - k ∧ qz_ = ⟨[(2, .rop [i64 p.n, .ros (p.ds.map i64) p.ds.length c] 0), (5, .ros ((reachedQ (kdsQ b)).map i64) ((reachedQ (kdsQ b)).length) none), (7, .ros ((staysP p).map i64) ((staysP p).length) none), (9, .out 0 l.length 2), (10, i64 ((t : Nat) : Int)), (11, i64 ((k : Nat) : Int))], [(0, outB (l.flatMap plC) 24 l.length)], 1, []⟩) ⟨0, [], 0, (by omega), rfl, rfl, rfl, rfl⟩ id ⟨eD rfl rfl, eD rfl rfl, eD rfl rfl, eW rfl le_nils_out rfl, eD rfl rfl, eD rfl rfl, trivial⟩ ⟨rO0 rfl, trivial⟩ rfl rfl rfl rfl (fun _ _ => rfl) ?_
  rintro _ _ ⟨k, l, t, hi0_0, hi0_1, hi0_2, rfl, rfl⟩
  have hll : l.length ≤ k := by rw [hi0_1]; exact Nat.le_trans (disP_le _ _) (by simp; omega)
  have htl : t ≤ k := by rw [hi0_2]; exact Nat.le_trans stN_le (by simp; omega)
  refine W_seq rfl ?_
  refine W_seq rfl ?_
  refine W_reg rfl ?_
  refine Rv rfl rfl rfl (U_move rfl) rfl rfl ?_
  refine Rv rfl rfl rfl (U_move rfl) rfl rfl ?_
  refine Rv rfl rfl rfl (U_lenOf rfl len_ros) rfl rfl ?_
  refine Rv rfl rfl rfl (U_lss rfl rfl) rfl rfl ?_
  refine Re rfl ?_
  refine thenQ_n ?_
  refine WcondP rfl rfl (fun hc2 => ?_) (fun hc2 => ?_)
  · have hck : k < (reachedQ (kdsQ b)).length := by omega
    have hkk := reached_in (List.getElem_mem hck)
    have hvk := movP_vp hv hkk
    have hlk := vp_mil hvk
    refine W_skip rfl ?_
    refine thenQ_n ?_
    refine W_seq rfl ?_
    refine W_block rfl ?_
    refine W_seq rfl ?_
    refine Wdraw rfl (by kernel_rfl) (by kernel_rfl) ?_
    refine Dv rfl rfl rfl (U_load2 rfl rfl rfl rfl) rfl rfl ?_
    refine Dv rfl rfl rfl (U_move rfl) rfl rfl ?_
    refine Dv rfl rfl rfl (U_move rfl) rfl rfl ?_
    have hx1 : k < (reachedQ (kdsQ b)).length := by omega
    refine Dv rfl rfl rfl (U_indexR (j := k) rfl rfl rfl hx1) rfl rfl ?_
    refine Dv rfl rfl rfl (U_load1 rfl rfl (getM hx1)) rfl rfl ?_
    refine Dv rfl rfl rfl (U_call rfl rfl (mvG_p p c N (by assumption) ((reachedQ (kdsQ b))[k]) (by first | assumption | omega)) rfl) rfl rfl ?_
    refine Dv rfl rfl rfl (U_move rfl) rfl rfl ?_
    refine Dv rfl rfl rfl (U_extract rfl rfl) rfl rfl ?_
    refine Dv rfl rfl rfl (U_extract rfl rfl) rfl rfl ?_
    refine Da rfl rfl rfl (U_alloc) rfl rfl rfl rfl ?_
    refine Dn_ rfl rfl rfl (U_storeAll rfl rfl rfl rfl rfl rfl) rfl rfl ?_
    refine Dv rfl rfl rfl (U_assign rfl) rfl rfl ?_
    refine Dr.nil rfl ?_
    refine thenQ_n ?_
    refine WfrN 1 rfl rfl (T' := [(2, .rop [i64 p.n, .ros (p.ds.map i64) p.ds.length c] 0), (5, .ros ((reachedQ (kdsQ b)).map i64) ((reachedQ (kdsQ b)).length) none), (7, .ros ((staysP p).map i64) ((staysP p).length) none), (9, .out 0 l.length 2), (10, i64 ((t : Nat) : Int)), (11, i64 ((k : Nat) : Int)), (12, .rop [i64 ((movP p ((reachedQ (kdsQ b))[k])).n), .ros (((movP p ((reachedQ (kdsQ b))[k])).ds).map i64) (((movP p ((reachedQ (kdsQ b))[k])).ds).length) none] 0), (13, i64 0)]) (H' := [(0, outB (l.flatMap plC) 24 l.length)]) ⟨⟨_, rfl, rfl⟩, ⟨_, rfl, rfl⟩, ⟨_, rfl, rfl⟩, ⟨_, rfl, rfl⟩, ⟨_, rfl, rfl⟩, ⟨_, rfl, rfl⟩, ⟨_, rfl, rfl⟩, ⟨_, rfl, rfl⟩, trivial⟩ ⟨⟨rfl, rFO (flatD (fun _ => rfl) _) rfl⟩, trivial⟩ ?_
    refine W_seq rfl ?_
    refine W_seq rfl ?_
    refine Wdraw rfl (by kernel_rfl) (by kernel_rfl) ?_
    refine Dv rfl rfl rfl (U_move rfl) rfl rfl ?_
    refine Dv rfl rfl rfl (U_neq rfl rfl) rfl rfl ?_
    refine Dv rfl rfl rfl (U_move rfl) rfl rfl ?_
    refine Dv rfl rfl rfl (U_load2 rfl rfl rfl rfl) rfl rfl ?_
    refine Dv rfl rfl rfl (U_load2 rfl rfl rfl rfl) rfl rfl ?_
    refine Dv rfl rfl rfl (U_call rfl rfl (samP_p (movP p ((reachedQ (kdsQ b))[k])) p none c (by assumption) (by assumption)) rfl) rfl rfl ?_
    refine Dv rfl rfl rfl (U_move rfl) rfl rfl ?_
    refine Dv rfl rfl rfl (U_move rfl) rfl rfl ?_
    refine Dv rfl rfl rfl (U_move rfl) rfl rfl ?_
    refine Dv rfl rfl rfl (U_indexR (j := k) rfl rfl rfl hx1) rfl rfl ?_
    refine Dv rfl rfl rfl (U_load1 rfl rfl (getM hx1)) rfl rfl ?_
    refine Dv rfl rfl rfl (U_call rfl rfl (hasS_p p none _ hv ((reachedQ (kdsQ b))[k]) (by assumption) (by omega)) rfl) rfl rfl ?_
    refine Dv rfl rfl rfl (OpU.toB (U_neqB rfl rfl) (decide_eq_false (by simp))) rfl rfl ?_
    refine Dv rfl rfl rfl (U_pick_f rfl rfl) rfl rfl ?_
    refine Dr.nil rfl ?_
    refine thenQ_n ?_
    refine Wcond rfl rfl (fun h => nomatch h) (fun _ => ?_)
    refine W_skip rfl ?_
    refine thenQ_n ?_
    refine W_seq rfl ?_
    refine W_seq rfl ?_
    refine W_reg rfl ?_
    refine Rv rfl rfl rfl (U_move rfl) rfl rfl ?_
    refine Rv rfl rfl rfl (U_move rfl) rfl rfl ?_
    refine Rv rfl rfl rfl (U_move rfl) rfl rfl ?_
    refine Rv rfl rfl rfl (U_indexR (j := k) rfl rfl rfl hx1) rfl rfl ?_
    refine Rv rfl rfl rfl (U_load1 rfl rfl (getM hx1)) rfl rfl ?_
    refine Rv rfl rfl rfl (U_call rfl rfl (hasS_p p none _ hv ((reachedQ (kdsQ b))[k]) (by assumption) (by omega)) rfl) rfl rfl ?_
    refine Re rfl ?_
    refine thenQ_n ?_
    refine Wcond rfl rfl (fun hc4 => ?_) (fun hc4 => ?_)
    · have hs4 := hc4
      refine W_reg rfl ?_
      refine Rv rfl rfl rfl (U_move rfl) rfl rfl ?_
      refine Rv rfl rfl rfl (U_add rfl rfl (w64e (m := ((t + 1 : Nat) : Int)) (by omega) (by omega) (by omega))) rfl rfl ?_
      refine Rv rfl rfl rfl (U_assign rfl) rfl rfl ?_
      refine Re rfl ?_
      refine thenQ_n ?_
      refine W_seq rfl ?_
      refine W_reg rfl ?_
      refine Rv rfl rfl rfl (U_assign rfl) rfl rfl ?_
      refine Re rfl ?_
      refine thenQ_n ?_
      refine W_seq rfl ?_
      refine W_seq rfl ?_
      refine W_reg rfl ?_
      refine Rv rfl rfl rfl (U_assign rfl) rfl rfl ?_
      refine Re rfl ?_
      refine thenQ_n ?_
      refine W_block rfl ?_
      refine LoopTo (T' := [(2, .rop [i64 p.n, .ros (p.ds.map i64) p.ds.length c] 0), (5, .ros ((reachedQ (kdsQ b)).map i64) ((reachedQ (kdsQ b)).length) none), (7, .ros ((staysP p).map i64) ((staysP p).length) none), (9, .out 0 l.length 2), (10, i64 ((t + 1 : Nat) : Int)), (11, i64 ((k : Nat) : Int)), (12, .rop [i64 ((movP p ((reachedQ (kdsQ b))[k])).n), .ros (((movP p ((reachedQ (kdsQ b))[k])).ds).map i64) (((movP p ((reachedQ (kdsQ b))[k])).ds).length) none] 0), (14, .bool false), (15, i64 ((0 : Nat) : Int))]) (H' := [(0, outB (l.flatMap plC) 24 l.length)]) (n := 1) rfl (fun mz_ qz_ => ∃ (j : Nat) (f : Bool), j ≤ l.length ∧ (f = (l.take j).any fun q => samP q (movP p (reachedQ (kdsQ b))[k])) ∧ mz_ = l.length - j ∧ qz_ = ⟨[(2, .rop [i64 p.n, .ros (p.ds.map i64) p.ds.length c] 0), (5, .ros ((reachedQ (kdsQ b)).map i64) ((reachedQ (kdsQ b)).length) none), (7, .ros ((staysP p).map i64) ((staysP p).length) none), (9, .out 0 l.length 2), (10, i64 ((t + 1 : Nat) : Int)), (11, i64 ((k : Nat) : Int)), (12, .rop [i64 ((movP p ((reachedQ (kdsQ b))[k])).n), .ros (((movP p ((reachedQ (kdsQ b))[k])).ds).map i64) (((movP p ((reachedQ (kdsQ b))[k])).ds).length) none] 0), (14, .bool f), (15, i64 ((j : Nat) : Int))], [(0, outB (l.flatMap plC) 24 l.length)], 1, []⟩) ⟨0, false, (by omega), rfl, rfl, rfl⟩ id ⟨eD rfl rfl, eD rfl rfl, eD rfl rfl, e_ rfl rfl, eD rfl rfl, eD rfl rfl, eD rfl rfl, eD rfl rfl, eD rfl rfl, trivial⟩ ⟨rO (flatD (fun _ => rfl) _) rfl rfl, trivial⟩ rfl rfl rfl rfl (fun _ _ => rfl) ?_
      rintro _ _ ⟨j, f, hi1_0, hi1_1, rfl, rfl⟩
      refine W_seq rfl ?_
      refine W_seq rfl ?_
      refine W_reg rfl ?_
      refine Rv rfl rfl rfl (U_move rfl) rfl rfl ?_
      refine Rv rfl rfl rfl (U_move rfl) rfl rfl ?_
      refine Rv rfl rfl rfl (U_lenOf rfl len_out) rfl rfl ?_
      refine Rv rfl rfl rfl (U_lss rfl rfl) rfl rfl ?_
      refine Re rfl ?_
      refine thenQ_n ?_
      refine WcondP rfl rfl (fun hc5 => ?_) (fun hc5 => ?_)
      · have hcj : j < l.length := by omega
        have hmj := List.getElem_mem hcj
        have hmj2 : ∀ q ∈ l, q ∈ disP p [] ((reachedQ (kdsQ b)).take k) := fun q hq => by rw [← hi0_1]; exact hq
        have hlj : l[j].ds.length ≤ 1000000 := by rcases disP_mem (hmj2 _ hmj) with h | ⟨g, _, e⟩; exact absurd h List.not_mem_nil; rw [e, movP_len]; exact hl1
        refine W_skip rfl ?_
        refine thenQ_n ?_
        refine W_seq rfl ?_
        refine W_block rfl ?_
        refine Wjoin ⟨[(2, .rop [i64 p.n, .ros (p.ds.map i64) p.ds.length c] 0), (5, .ros ((reachedQ (kdsQ b)).map i64) ((reachedQ (kdsQ b)).length) none), (7, .ros ((staysP p).map i64) ((staysP p).length) none), (9, .out 0 l.length 2), (10, i64 ((t + 1 : Nat) : Int)), (11, i64 ((k : Nat) : Int)), (12, .rop [i64 ((movP p ((reachedQ (kdsQ b))[k])).n), .ros (((movP p ((reachedQ (kdsQ b))[k])).ds).map i64) (((movP p ((reachedQ (kdsQ b))[k])).ds).length) none] 0), (14, .bool (f || (samP l[j] (movP p ((reachedQ (kdsQ b))[k]))))), (15, i64 ((j : Nat) : Int))], [(0, outB (l.flatMap plC) 24 l.length)], 1, []⟩ ?_ ?_
        · refine Wdraw rfl (by kernel_rfl) (by kernel_rfl) ?_
          refine Dv rfl rfl rfl (U_move rfl) rfl rfl ?_
          refine Dv rfl rfl rfl (U_move rfl) rfl rfl ?_
          refine Dsplit (t := 92) rfl (fun hg2 => ?_) (fun hg2 => ?_)
          · rw [hg2]
            refine Ds rfl rfl rfl rfl rfl ?_
            refine Ds rfl rfl rfl rfl rfl ?_
            refine Ds rfl rfl rfl rfl rfl ?_
            refine Ds rfl rfl rfl rfl rfl ?_
            refine Ds rfl rfl rfl rfl rfl ?_
            refine Ds rfl rfl rfl rfl rfl ?_
            refine Dv rfl rfl rfl (U_pick_t rfl rfl) rfl rfl ?_
            refine Dv rfl rfl rfl (U_assign rfl) rfl rfl ?_
            refine Dr.nil rfl ?_
            exact joinTo id ⟨eD rfl rfl, eD rfl rfl, eD rfl rfl, e_ rfl rfl, eD rfl rfl, eD rfl rfl, eD rfl rfl, eD rfl rfl, eD rfl rfl, trivial⟩ ⟨rO (flatD (fun _ => rfl) _) rfl rfl, trivial⟩ rfl rfl rfl rfl (fun _ _ => rfl)
          · rw [hg2]
            refine Dv rfl rfl rfl (U_move rfl) rfl rfl ?_
            refine Dv rfl rfl rfl (U_move rfl) rfl rfl ?_
            have hx3 : j < l.length := by omega
            refine Dv rfl rfl rfl (U_indexO (j := j) rfl rfl rfl hx3) rfl rfl ?_
            refine Dv rfl rfl rfl (U_load2 rfl (srcO rfl (by omega)) (plZ0 hx3) (plZ1 hx3)) rfl rfl ?_
            refine Dv rfl rfl rfl (U_load2 rfl rfl rfl rfl) rfl rfl ?_
            refine Dv rfl rfl rfl (U_call rfl rfl (samP_p l[j] (movP p ((reachedQ (kdsQ b))[k])) none none (by assumption) (by assumption)) rfl) rfl rfl ?_
            refine Dv rfl rfl rfl (U_pick_f rfl rfl) rfl rfl ?_
            refine Dv rfl rfl rfl (U_assign rfl) rfl rfl ?_
            refine Dr.nil rfl ?_
            exact joinTo id ⟨eD rfl rfl, eD rfl rfl, eD rfl rfl, e_ rfl rfl, eD rfl rfl, eD rfl rfl, eD rfl rfl, eD rfl rfl, eD rfl rfl, trivial⟩ ⟨rO (flatD (fun _ => rfl) _) rfl rfl, trivial⟩ rfl rfl rfl rfl (fun _ _ => rfl)
        refine blkQ_n ?_
        refine thenQ_n ?_
        refine W_reg rfl ?_
        refine Rv rfl rfl rfl (U_move rfl) rfl rfl ?_
        refine Rv rfl rfl rfl (U_add rfl rfl (w64e (m := ((j + 1 : Nat) : Int)) (by omega) (by omega) (by omega))) rfl rfl ?_
        refine Rv rfl rfl rfl (U_assign rfl) rfl rfl ?_
        refine Re rfl ?_
        refine thenQ_n ?_
        exact againTo (T' := [(2, .rop [i64 p.n, .ros (p.ds.map i64) p.ds.length c] 0), (5, .ros ((reachedQ (kdsQ b)).map i64) ((reachedQ (kdsQ b)).length) none), (7, .ros ((staysP p).map i64) ((staysP p).length) none), (9, .out 0 l.length 2), (10, i64 ((t + 1 : Nat) : Int)), (11, i64 ((k : Nat) : Int)), (12, .rop [i64 ((movP p ((reachedQ (kdsQ b))[k])).n), .ros (((movP p ((reachedQ (kdsQ b))[k])).ds).map i64) (((movP p ((reachedQ (kdsQ b))[k])).ds).length) none] 0), (14, .bool (f || (samP l[j] (movP p ((reachedQ (kdsQ b))[k]))))), (15, i64 (((j + 1) : Nat) : Int))]) (H' := [(0, outB (l.flatMap plC) 24 l.length)]) (n := 1) (l.length - (j + 1)) ⟨j + 1, f || (samP l[j] (movP p ((reachedQ (kdsQ b))[k]))), (by omega), (by rw [List.take_succ_eq_append_getElem hcj, List.any_append, ← hi1_1]; simp), rfl, rfl⟩ (by omega) id ⟨eD rfl rfl, eD rfl rfl, eD rfl rfl, e_ rfl rfl, eD rfl rfl, eD rfl rfl, eD rfl rfl, eD rfl rfl, eD rfl rfl, trivial⟩ ⟨rO (flatD (fun _ => rfl) _) rfl rfl, trivial⟩ rfl rfl rfl rfl (fun _ _ => rfl)
      · have hff : f = l.any fun q => samP q (movP p (reachedQ (kdsQ b))[k]) := by rw [hi1_1, List.take_of_length_le (by omega)]
        refine W_exit rfl ?_
        refine thenQ_x ?_
        refine thenQ_x ?_
        refine blkQ_x rfl ?_
        refine thenQ_n ?_
        refine W_seq rfl ?_
        refine W_reg rfl ?_
        refine Rv rfl rfl rfl (U_move rfl) rfl rfl ?_
        refine Rv rfl rfl rfl (U_not rfl) rfl rfl ?_
        refine Re rfl ?_
        refine thenQ_n ?_
        refine Wcond rfl rfl (fun hc6 => ?_) (fun hc6 => ?_)
        · have hs6 : ¬ (l.any fun q => samP q (movP p (reachedQ (kdsQ b))[k])) = true := by rw [← hff]; simpa using hc6
          refine W_reg rfl ?_
          refine Rv rfl rfl rfl (U_move rfl) rfl rfl ?_
          refine Rv rfl rfl rfl (U_load2 rfl rfl rfl rfl) rfl rfl ?_
          refine Rv rfl rfl rfl (U_buildSliceF (by rfl) (by decide) rfl rfl rfl) rfl rfl ?_
          refine Ra rfl rfl rfl (U_appO (b := 0) (m := 0) (cs' := (l ++ [(movP p ((reachedQ (kdsQ b))[k]))]).flatMap plC) (n' := (l ++ [(movP p ((reachedQ (kdsQ b))[k]))]).length) rfl rfl (by simp) rfl (flat_len (z := 2) (fun _ => rfl) _) rfl rfl (by omega) (appF _ _) (len1 _ _)) rfl rfl rfl ?_
          refine Rv rfl rfl rfl (U_assign rfl) rfl rfl ?_
          refine Re rfl ?_
          refine blkQ_n ?_
          refine thenQ_n ?_
          refine W_reg rfl ?_
          refine Rv rfl rfl rfl (U_move rfl) rfl rfl ?_
          refine Rv rfl rfl rfl (U_add rfl rfl (w64e (m := ((k + 1 : Nat) : Int)) (by omega) (by omega) (by omega))) rfl rfl ?_
          refine Rv rfl rfl rfl (U_assign rfl) rfl rfl ?_
          refine Re rfl ?_
          refine thenQ_n ?_
          exact againTo (T' := [(2, .rop [i64 p.n, .ros (p.ds.map i64) p.ds.length c] 0), (5, .ros ((reachedQ (kdsQ b)).map i64) ((reachedQ (kdsQ b)).length) none), (7, .ros ((staysP p).map i64) ((staysP p).length) none), (9, .out 0 (l ++ [(movP p ((reachedQ (kdsQ b))[k]))]).length 2), (10, i64 (((t + 1) : Nat) : Int)), (11, i64 (((k + 1) : Nat) : Int))]) (H' := [(0, outB ((l ++ [(movP p ((reachedQ (kdsQ b))[k]))]).flatMap plC) 24 (l ++ [(movP p ((reachedQ (kdsQ b))[k]))]).length)]) (n := 1) ((reachedQ (kdsQ b)).length - (k + 1)) ⟨k + 1, l ++ [(movP p ((reachedQ (kdsQ b))[k]))], t + 1, (by omega), (by rw [disP_take hck, ← hi0_1]; first | exact (if_pos hs6).symm | exact (if_neg hs6).symm), (by rw [stN_take hck, ← hi0_2]; first | (rw [if_pos hs4]; done) | (rw [if_neg hs4]; rfl)), rfl, rfl⟩ (by omega) (mapN [1]) ⟨eD rfl rfl, eD rfl rfl, eD rfl rfl, e_ rfl rfl, eD rfl rfl, eD rfl rfl, trivial⟩ ⟨rO (flatD (fun _ => rfl) _) rfl rfl, trivial⟩ rfl rfl rfl rfl (fun _ h => absurd h (Nat.not_lt_zero _))
        · have hc6' := Bool.eq_false_iff.1 hc6
          have hs6 : (l.any fun q => samP q (movP p (reachedQ (kdsQ b))[k])) = true := by rw [← hff]; simpa using hc6
          refine W_skip rfl ?_
          refine blkQ_n ?_
          refine thenQ_n ?_
          refine W_reg rfl ?_
          refine Rv rfl rfl rfl (U_move rfl) rfl rfl ?_
          refine Rv rfl rfl rfl (U_add rfl rfl (w64e (m := ((k + 1 : Nat) : Int)) (by omega) (by omega) (by omega))) rfl rfl ?_
          refine Rv rfl rfl rfl (U_assign rfl) rfl rfl ?_
          refine Re rfl ?_
          refine thenQ_n ?_
          exact againTo (T' := [(2, .rop [i64 p.n, .ros (p.ds.map i64) p.ds.length c] 0), (5, .ros ((reachedQ (kdsQ b)).map i64) ((reachedQ (kdsQ b)).length) none), (7, .ros ((staysP p).map i64) ((staysP p).length) none), (9, .out 0 l.length 2), (10, i64 (((t + 1) : Nat) : Int)), (11, i64 (((k + 1) : Nat) : Int))]) (H' := [(0, outB (l.flatMap plC) 24 l.length)]) (n := 1) ((reachedQ (kdsQ b)).length - (k + 1)) ⟨k + 1, l, t + 1, (by omega), (by rw [disP_take hck, ← hi0_1]; first | exact (if_pos hs6).symm | exact (if_neg hs6).symm), (by rw [stN_take hck, ← hi0_2]; first | (rw [if_pos hs4]; done) | (rw [if_neg hs4]; rfl)), rfl, rfl⟩ (by omega) id ⟨eD rfl rfl, eD rfl rfl, eD rfl rfl, e_ rfl rfl, eD rfl rfl, eD rfl rfl, trivial⟩ ⟨rO (flatD (fun _ => rfl) _) rfl rfl, trivial⟩ rfl rfl rfl rfl (fun _ _ => rfl)
    · have hc4' := Bool.eq_false_iff.1 hc4
      have hs4 : ¬ samP (movP p (reachedQ (kdsQ b))[k]) p = true := by simpa using hc4
      refine W_skip rfl ?_
      refine thenQ_n ?_
      refine W_seq rfl ?_
      refine W_reg rfl ?_
      refine Rv rfl rfl rfl (U_assign rfl) rfl rfl ?_
      refine Re rfl ?_
      refine thenQ_n ?_
      refine W_seq rfl ?_
      refine W_seq rfl ?_
      refine W_reg rfl ?_
      refine Rv rfl rfl rfl (U_assign rfl) rfl rfl ?_
      refine Re rfl ?_
      refine thenQ_n ?_
      refine W_block rfl ?_
      refine LoopTo (T' := [(2, .rop [i64 p.n, .ros (p.ds.map i64) p.ds.length c] 0), (5, .ros ((reachedQ (kdsQ b)).map i64) ((reachedQ (kdsQ b)).length) none), (7, .ros ((staysP p).map i64) ((staysP p).length) none), (9, .out 0 l.length 2), (10, i64 ((t : Nat) : Int)), (11, i64 ((k : Nat) : Int)), (12, .rop [i64 ((movP p ((reachedQ (kdsQ b))[k])).n), .ros (((movP p ((reachedQ (kdsQ b))[k])).ds).map i64) (((movP p ((reachedQ (kdsQ b))[k])).ds).length) none] 0), (14, .bool false), (15, i64 ((0 : Nat) : Int))]) (H' := [(0, outB (l.flatMap plC) 24 l.length)]) (n := 1) rfl (fun mz_ qz_ => ∃ (j : Nat) (f : Bool), j ≤ l.length ∧ (f = (l.take j).any fun q => samP q (movP p (reachedQ (kdsQ b))[k])) ∧ mz_ = l.length - j ∧ qz_ = ⟨[(2, .rop [i64 p.n, .ros (p.ds.map i64) p.ds.length c] 0), (5, .ros ((reachedQ (kdsQ b)).map i64) ((reachedQ (kdsQ b)).length) none), (7, .ros ((staysP p).map i64) ((staysP p).length) none), (9, .out 0 l.length 2), (10, i64 ((t : Nat) : Int)), (11, i64 ((k : Nat) : Int)), (12, .rop [i64 ((movP p ((reachedQ (kdsQ b))[k])).n), .ros (((movP p ((reachedQ (kdsQ b))[k])).ds).map i64) (((movP p ((reachedQ (kdsQ b))[k])).ds).length) none] 0), (14, .bool f), (15, i64 ((j : Nat) : Int))], [(0, outB (l.flatMap plC) 24 l.length)], 1, []⟩) ⟨0, false, (by omega), rfl, rfl, rfl⟩ id ⟨eD rfl rfl, eD rfl rfl, eD rfl rfl, e_ rfl rfl, eD rfl rfl, eD rfl rfl, eD rfl rfl, eD rfl rfl, eD rfl rfl, trivial⟩ ⟨rO (flatD (fun _ => rfl) _) rfl rfl, trivial⟩ rfl rfl rfl rfl (fun _ _ => rfl) ?_
      rintro _ _ ⟨j, f, hi1_0, hi1_1, rfl, rfl⟩
      refine W_seq rfl ?_
      refine W_seq rfl ?_
      refine W_reg rfl ?_
      refine Rv rfl rfl rfl (U_move rfl) rfl rfl ?_
      refine Rv rfl rfl rfl (U_move rfl) rfl rfl ?_
      refine Rv rfl rfl rfl (U_lenOf rfl len_out) rfl rfl ?_
      refine Rv rfl rfl rfl (U_lss rfl rfl) rfl rfl ?_
      refine Re rfl ?_
      refine thenQ_n ?_
      refine WcondP rfl rfl (fun hc5 => ?_) (fun hc5 => ?_)
      · have hcj : j < l.length := by omega
        have hmj := List.getElem_mem hcj
        have hmj2 : ∀ q ∈ l, q ∈ disP p [] ((reachedQ (kdsQ b)).take k) := fun q hq => by rw [← hi0_1]; exact hq
        have hlj : l[j].ds.length ≤ 1000000 := by rcases disP_mem (hmj2 _ hmj) with h | ⟨g, _, e⟩; exact absurd h List.not_mem_nil; rw [e, movP_len]; exact hl1
        refine W_skip rfl ?_
        refine thenQ_n ?_
        refine W_seq rfl ?_
        refine W_block rfl ?_
        refine Wjoin ⟨[(2, .rop [i64 p.n, .ros (p.ds.map i64) p.ds.length c] 0), (5, .ros ((reachedQ (kdsQ b)).map i64) ((reachedQ (kdsQ b)).length) none), (7, .ros ((staysP p).map i64) ((staysP p).length) none), (9, .out 0 l.length 2), (10, i64 ((t : Nat) : Int)), (11, i64 ((k : Nat) : Int)), (12, .rop [i64 ((movP p ((reachedQ (kdsQ b))[k])).n), .ros (((movP p ((reachedQ (kdsQ b))[k])).ds).map i64) (((movP p ((reachedQ (kdsQ b))[k])).ds).length) none] 0), (14, .bool (f || (samP l[j] (movP p ((reachedQ (kdsQ b))[k]))))), (15, i64 ((j : Nat) : Int))], [(0, outB (l.flatMap plC) 24 l.length)], 1, []⟩ ?_ ?_
        · refine Wdraw rfl (by kernel_rfl) (by kernel_rfl) ?_
          refine Dv rfl rfl rfl (U_move rfl) rfl rfl ?_
          refine Dv rfl rfl rfl (U_move rfl) rfl rfl ?_
          refine Dsplit (t := 92) rfl (fun hg4 => ?_) (fun hg4 => ?_)
          · rw [hg4]
            refine Ds rfl rfl rfl rfl rfl ?_
            refine Ds rfl rfl rfl rfl rfl ?_
            refine Ds rfl rfl rfl rfl rfl ?_
            refine Ds rfl rfl rfl rfl rfl ?_
            refine Ds rfl rfl rfl rfl rfl ?_
            refine Ds rfl rfl rfl rfl rfl ?_
            refine Dv rfl rfl rfl (U_pick_t rfl rfl) rfl rfl ?_
            refine Dv rfl rfl rfl (U_assign rfl) rfl rfl ?_
            refine Dr.nil rfl ?_
            exact joinTo id ⟨eD rfl rfl, eD rfl rfl, eD rfl rfl, e_ rfl rfl, eD rfl rfl, eD rfl rfl, eD rfl rfl, eD rfl rfl, eD rfl rfl, trivial⟩ ⟨rO (flatD (fun _ => rfl) _) rfl rfl, trivial⟩ rfl rfl rfl rfl (fun _ _ => rfl)
          · rw [hg4]
            refine Dv rfl rfl rfl (U_move rfl) rfl rfl ?_
            refine Dv rfl rfl rfl (U_move rfl) rfl rfl ?_
            have hx5 : j < l.length := by omega
            refine Dv rfl rfl rfl (U_indexO (j := j) rfl rfl rfl hx5) rfl rfl ?_
            refine Dv rfl rfl rfl (U_load2 rfl (srcO rfl (by omega)) (plZ0 hx5) (plZ1 hx5)) rfl rfl ?_
            refine Dv rfl rfl rfl (U_load2 rfl rfl rfl rfl) rfl rfl ?_
            refine Dv rfl rfl rfl (U_call rfl rfl (samP_p l[j] (movP p ((reachedQ (kdsQ b))[k])) none none (by assumption) (by assumption)) rfl) rfl rfl ?_
            refine Dv rfl rfl rfl (U_pick_f rfl rfl) rfl rfl ?_
            refine Dv rfl rfl rfl (U_assign rfl) rfl rfl ?_
            refine Dr.nil rfl ?_
            exact joinTo id ⟨eD rfl rfl, eD rfl rfl, eD rfl rfl, e_ rfl rfl, eD rfl rfl, eD rfl rfl, eD rfl rfl, eD rfl rfl, eD rfl rfl, trivial⟩ ⟨rO (flatD (fun _ => rfl) _) rfl rfl, trivial⟩ rfl rfl rfl rfl (fun _ _ => rfl)
        refine blkQ_n ?_
        refine thenQ_n ?_
        refine W_reg rfl ?_
        refine Rv rfl rfl rfl (U_move rfl) rfl rfl ?_
        refine Rv rfl rfl rfl (U_add rfl rfl (w64e (m := ((j + 1 : Nat) : Int)) (by omega) (by omega) (by omega))) rfl rfl ?_
        refine Rv rfl rfl rfl (U_assign rfl) rfl rfl ?_
        refine Re rfl ?_
        refine thenQ_n ?_
        exact againTo (T' := [(2, .rop [i64 p.n, .ros (p.ds.map i64) p.ds.length c] 0), (5, .ros ((reachedQ (kdsQ b)).map i64) ((reachedQ (kdsQ b)).length) none), (7, .ros ((staysP p).map i64) ((staysP p).length) none), (9, .out 0 l.length 2), (10, i64 ((t : Nat) : Int)), (11, i64 ((k : Nat) : Int)), (12, .rop [i64 ((movP p ((reachedQ (kdsQ b))[k])).n), .ros (((movP p ((reachedQ (kdsQ b))[k])).ds).map i64) (((movP p ((reachedQ (kdsQ b))[k])).ds).length) none] 0), (14, .bool (f || (samP l[j] (movP p ((reachedQ (kdsQ b))[k]))))), (15, i64 (((j + 1) : Nat) : Int))]) (H' := [(0, outB (l.flatMap plC) 24 l.length)]) (n := 1) (l.length - (j + 1)) ⟨j + 1, f || (samP l[j] (movP p ((reachedQ (kdsQ b))[k]))), (by omega), (by rw [List.take_succ_eq_append_getElem hcj, List.any_append, ← hi1_1]; simp), rfl, rfl⟩ (by omega) id ⟨eD rfl rfl, eD rfl rfl, eD rfl rfl, e_ rfl rfl, eD rfl rfl, eD rfl rfl, eD rfl rfl, eD rfl rfl, eD rfl rfl, trivial⟩ ⟨rO (flatD (fun _ => rfl) _) rfl rfl, trivial⟩ rfl rfl rfl rfl (fun _ _ => rfl)
      · have hff : f = l.any fun q => samP q (movP p (reachedQ (kdsQ b))[k]) := by rw [hi1_1, List.take_of_length_le (by omega)]
        refine W_exit rfl ?_
        refine thenQ_x ?_
        refine thenQ_x ?_
        refine blkQ_x rfl ?_
        refine thenQ_n ?_
        refine W_seq rfl ?_
        refine W_reg rfl ?_
        refine Rv rfl rfl rfl (U_move rfl) rfl rfl ?_
        refine Rv rfl rfl rfl (U_not rfl) rfl rfl ?_
        refine Re rfl ?_
        refine thenQ_n ?_
        refine Wcond rfl rfl (fun hc6 => ?_) (fun hc6 => ?_)
        · have hs6 : ¬ (l.any fun q => samP q (movP p (reachedQ (kdsQ b))[k])) = true := by rw [← hff]; simpa using hc6
          refine W_reg rfl ?_
          refine Rv rfl rfl rfl (U_move rfl) rfl rfl ?_
          refine Rv rfl rfl rfl (U_load2 rfl rfl rfl rfl) rfl rfl ?_
          refine Rv rfl rfl rfl (U_buildSliceF (by rfl) (by decide) rfl rfl rfl) rfl rfl ?_
          refine Ra rfl rfl rfl (U_appO (b := 0) (m := 0) (cs' := (l ++ [(movP p ((reachedQ (kdsQ b))[k]))]).flatMap plC) (n' := (l ++ [(movP p ((reachedQ (kdsQ b))[k]))]).length) rfl rfl (by simp) rfl (flat_len (z := 2) (fun _ => rfl) _) rfl rfl (by omega) (appF _ _) (len1 _ _)) rfl rfl rfl ?_
          refine Rv rfl rfl rfl (U_assign rfl) rfl rfl ?_
          refine Re rfl ?_
          refine blkQ_n ?_
          refine thenQ_n ?_
          refine W_reg rfl ?_
          refine Rv rfl rfl rfl (U_move rfl) rfl rfl ?_
          refine Rv rfl rfl rfl (U_add rfl rfl (w64e (m := ((k + 1 : Nat) : Int)) (by omega) (by omega) (by omega))) rfl rfl ?_
          refine Rv rfl rfl rfl (U_assign rfl) rfl rfl ?_
          refine Re rfl ?_
          refine thenQ_n ?_
          exact againTo (T' := [(2, .rop [i64 p.n, .ros (p.ds.map i64) p.ds.length c] 0), (5, .ros ((reachedQ (kdsQ b)).map i64) ((reachedQ (kdsQ b)).length) none), (7, .ros ((staysP p).map i64) ((staysP p).length) none), (9, .out 0 (l ++ [(movP p ((reachedQ (kdsQ b))[k]))]).length 2), (10, i64 ((t : Nat) : Int)), (11, i64 (((k + 1) : Nat) : Int))]) (H' := [(0, outB ((l ++ [(movP p ((reachedQ (kdsQ b))[k]))]).flatMap plC) 24 (l ++ [(movP p ((reachedQ (kdsQ b))[k]))]).length)]) (n := 1) ((reachedQ (kdsQ b)).length - (k + 1)) ⟨k + 1, l ++ [(movP p ((reachedQ (kdsQ b))[k]))], t, (by omega), (by rw [disP_take hck, ← hi0_1]; first | exact (if_pos hs6).symm | exact (if_neg hs6).symm), (by rw [stN_take hck, ← hi0_2]; first | (rw [if_pos hs4]; done) | (rw [if_neg hs4]; rfl)), rfl, rfl⟩ (by omega) (mapN [1]) ⟨eD rfl rfl, eD rfl rfl, eD rfl rfl, e_ rfl rfl, eD rfl rfl, eD rfl rfl, trivial⟩ ⟨rO (flatD (fun _ => rfl) _) rfl rfl, trivial⟩ rfl rfl rfl rfl (fun _ h => absurd h (Nat.not_lt_zero _))
        · have hc6' := Bool.eq_false_iff.1 hc6
          have hs6 : (l.any fun q => samP q (movP p (reachedQ (kdsQ b))[k])) = true := by rw [← hff]; simpa using hc6
          refine W_skip rfl ?_
          refine blkQ_n ?_
          refine thenQ_n ?_
          refine W_reg rfl ?_
          refine Rv rfl rfl rfl (U_move rfl) rfl rfl ?_
          refine Rv rfl rfl rfl (U_add rfl rfl (w64e (m := ((k + 1 : Nat) : Int)) (by omega) (by omega) (by omega))) rfl rfl ?_
          refine Rv rfl rfl rfl (U_assign rfl) rfl rfl ?_
          refine Re rfl ?_
          refine thenQ_n ?_
          exact againTo (T' := [(2, .rop [i64 p.n, .ros (p.ds.map i64) p.ds.length c] 0), (5, .ros ((reachedQ (kdsQ b)).map i64) ((reachedQ (kdsQ b)).length) none), (7, .ros ((staysP p).map i64) ((staysP p).length) none), (9, .out 0 l.length 2), (10, i64 ((t : Nat) : Int)), (11, i64 (((k + 1) : Nat) : Int))]) (H' := [(0, outB (l.flatMap plC) 24 l.length)]) (n := 1) ((reachedQ (kdsQ b)).length - (k + 1)) ⟨k + 1, l, t, (by omega), (by rw [disP_take hck, ← hi0_1]; first | exact (if_pos hs6).symm | exact (if_neg hs6).symm), (by rw [stN_take hck, ← hi0_2]; first | (rw [if_pos hs4]; done) | (rw [if_neg hs4]; rfl)), rfl, rfl⟩ (by omega) id ⟨eD rfl rfl, eD rfl rfl, eD rfl rfl, e_ rfl rfl, eD rfl rfl, eD rfl rfl, trivial⟩ ⟨rO (flatD (fun _ => rfl) _) rfl rfl, trivial⟩ rfl rfl rfl rfl (fun _ _ => rfl)
  · have hld : l = disP p [] (reachedQ (kdsQ b)) := by rw [hi0_1, List.take_of_length_le (by omega)]
    have htd : t = stN p (reachedQ (kdsQ b)) := by rw [hi0_2, List.take_of_length_le (by omega)]
    have hpr : ((l.length : Nat) : Int) * ((t : Nat) : Int) = (((reachedQ (kdsQ b)).length : Nat) : Int) := by rw [← hsh, hld, htd]; push_cast; rfl
    have hend := hpr
    refine W_exit rfl ?_
    refine thenQ_x ?_
    refine thenQ_x ?_
    refine blkQ_x rfl ?_
    refine thenQ_n ?_
    refine W_seq rfl ?_
    refine W_reg rfl ?_
    refine Rv rfl rfl rfl (U_move rfl) rfl rfl ?_
    refine Rv rfl rfl rfl (U_call rfl rfl (reachedS_p (staysP p) none hSG (by assumption)) rfl) rfl rfl ?_
    refine Rv rfl rfl rfl (U_move rfl) rfl rfl ?_
    refine Rv rfl rfl rfl (U_extract rfl rfl) rfl rfl ?_
    refine Rv rfl rfl rfl (U_extract rfl rfl) rfl rfl ?_
    refine Rv rfl rfl rfl (U_assign rfl) rfl rfl ?_
    refine Rv rfl rfl rfl (U_assign rfl) rfl rfl ?_
    refine Re rfl ?_
    refine thenQ_n ?_
    refine W_seq rfl ?_
    refine W_reg rfl ?_
    refine Rv rfl rfl rfl (U_move rfl) rfl rfl ?_
    refine Rv rfl rfl rfl (U_eql rfl rfl) rfl rfl ?_
    refine Rv rfl rfl rfl (U_move rfl) rfl rfl ?_
    refine Rv rfl rfl rfl (U_move rfl) rfl rfl ?_
    refine Rv rfl rfl rfl (U_move rfl) rfl rfl ?_
    refine Rv rfl rfl rfl (U_call rfl rfl (intsS_p (staysP p) none none (by omega)) rfl) rfl rfl ?_
    refine Rv rfl rfl rfl (U_pick_t rfl rfl) rfl rfl ?_
    refine Rv rfl rfl rfl (U_move rfl) rfl rfl ?_
    refine Rv rfl rfl rfl (U_move rfl) rfl rfl ?_
    refine Rv rfl rfl rfl (U_lenOf rfl len_out) rfl rfl ?_
    refine Rv rfl rfl rfl (U_move rfl) rfl rfl ?_
    refine Rv rfl rfl rfl (U_mul rfl rfl (w64 (by rw [hpr]; omega) (by rw [hpr]; omega))) rfl rfl ?_
    refine Rv rfl rfl rfl (U_move rfl) rfl rfl ?_
    refine Rv rfl rfl rfl (U_lenOf rfl len_ros) rfl rfl ?_
    refine Rv rfl rfl rfl (OpU.toB (U_eql rfl rfl) (decide_eq_true hend)) rfl rfl ?_
    refine Rv rfl rfl rfl (U_pick_t rfl rfl) rfl rfl ?_
    refine Rv rfl rfl rfl (U_move rfl) rfl rfl ?_
    refine Rv rfl rfl rfl (U_move rfl) rfl rfl ?_
    refine Rv rfl rfl rfl (U_lenOf rfl len_ros) rfl rfl ?_
    refine Rv rfl rfl rfl (U_rem (c := (8 % (((reachedQ (kdsQ b)).length : Nat) : Int))) rfl rfl (by omega) (tmodP (by omega))) rfl rfl ?_
    refine Rv rfl rfl rfl (OpU.toB (U_eql rfl rfl) (decide_eq_true hmz)) rfl rfl ?_
    refine Rv rfl rfl rfl (U_pick_t rfl rfl) rfl rfl ?_
    refine Rv rfl rfl rfl (U_move rfl) rfl rfl ?_
    refine Rv rfl rfl rfl (U_call rfl rfl (works_p) rfl) rfl rfl ?_
    refine Rv rfl rfl rfl (U_pick_t rfl rfl) rfl rfl ?_
    refine Rv rfl rfl rfl (U_assign rfl) rfl rfl ?_
    refine Re rfl ?_
    refine thenQ_n ?_
    refine W_ret rfl ?_
    exact retL (rlT rfl rl0) rfl rfl
theorem plateShared_p (p : Pl) (c : Option Nat) (b : Nat) (hb8 : b < 256) : Pure Try.prog 12 [.agg [i64 p.n, intsA p.ds c], .int .u8 (b : Nat)] (.bool true) := by
  cases hf : (!(!grt p && decide (chkP p = 0))) with
  | true => exact plateShared0_p p c b hf
  | false =>
    rw [Bool.not_eq_false'] at hf
    obtain ⟨N, hv⟩ := vp_of (fine_ok hf)
    exact plateShared1_p p c b hb8 N hv
end Go.Proofs.Ythoodfiacfmhgaa
end
