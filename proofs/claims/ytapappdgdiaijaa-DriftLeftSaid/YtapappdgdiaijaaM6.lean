import Derived.Test.YtapappdgdiaijaaM5
section
/- Contracts of package drift: Place, Motion; lists of entries that are left out. -/
namespace Go.Proofs.Ytapappdgdiaijaa
set_option maxRecDepth 20000
open Go.AE
theorem good_pos {s : Star} (h : chkS s = 0) : 0 < s.es.length := by
  unfold chkS at h
  by_cases h1 : inL 1 12 [(s.es.length : Int)] = true
  · simp [inL] at h1; omega
  · rw [if_pos (by simpa using h1)] at h; omega
theorem turn_pos {s : Star} (h : 0 < s.es.length) : 0 < (turnS s).es.length := by simpa [turnS] using h
def lowQ (s : Star) (year : Int) : Int × Int := (-(highQ (turnS s) year).1, (highQ (turnS s) year).2)
theorem place_p (s : Star) (c : Option Nat) (hl : s.es.length ≤ 1000) (year : Int) : Pure Try.prog 34 [starA s c, i64 year] (.tup [ratA (if plcS s year = 0 then lowQ s year else (0, 0)), ratA (if plcS s year = 0 then highQ s year else (0, 0)), i64 (plcS s year)]) := by
  refine pure_of_body Try.func34 (c := body Try.f34) rfl (by simp [Try.ntmps34]) fun w0 Φ0 => ?_
  refine W_seq rfl ?_
  refine W_reg rfl ?_
  refine Rv rfl rfl rfl (U_boxF rfl rfl rfl) rfl rfl ?_
  refine Ra rfl rfl rfl (U_alloc) rfl rfl rfl ?_
  refine Ra rfl rfl rfl (U_alloc) rfl rfl rfl ?_
  refine Rv rfl rfl rfl (U_assign rfl) rfl rfl ?_
  refine Re rfl ?_
  refine thenQ_n ?_
  refine W_seq rfl ?_
  refine W_reg rfl ?_
  refine Rv rfl rfl rfl (U_load3 rfl rfl rfl rfl rfl) rfl rfl ?_
  refine Rv rfl rfl rfl (U_move rfl) rfl rfl ?_
  refine Rv rfl rfl rfl (U_call rfl rfl (placed_p s c (by omega) year) rfl) rfl rfl ?_
  refine Rv rfl rfl rfl (U_move rfl) rfl rfl ?_
  refine Rv rfl rfl rfl (U_extract rfl rfl) rfl rfl ?_
  refine Rv rfl rfl rfl (U_extract rfl rfl) rfl rfl ?_
  refine Rv rfl rfl rfl (U_assign rfl) rfl rfl ?_
  refine Rv rfl rfl rfl (U_assign rfl) rfl rfl ?_
  refine Re rfl ?_
  refine thenQ_n ?_
  refine W_seq rfl ?_
  refine W_seq rfl ?_
  refine W_reg rfl ?_
  refine Rv rfl rfl rfl (U_move rfl) rfl rfl ?_
  refine Rv rfl rfl rfl (U_neq rfl rfl) rfl rfl ?_
  refine Re rfl ?_
  refine thenQ_n ?_
  refine WcondP rfl rfl (fun h0 => ?_) (fun h0 => ?_)
  · simp only [if_neg h0]
    refine W_seq rfl ?_
    refine W_reg rfl ?_
    refine Rv rfl rfl rfl (U_build rfl rfl) rfl rfl ?_
    refine Rv rfl rfl rfl (U_build rfl rfl) rfl rfl ?_
    refine Rv rfl rfl rfl (U_move rfl) rfl rfl ?_
    refine Rn rfl rfl rfl (U_storeAll rfl rfl rfl rfl rfl rfl) rfl ?_
    refine Rn rfl rfl rfl (U_storeAll rfl rfl rfl rfl rfl rfl) rfl ?_
    refine Rv rfl rfl rfl (U_assign rfl) rfl rfl ?_
    refine Re rfl ?_
    refine thenQ_n ?_
    refine W_ret rfl ?_
    refine thenQ_r ?_
    exact retL (rlA rfl rfl rfl (rlA rfl rfl rfl (rlT rfl rl0))) (by first | rfl | (simp only [packA]; simp only [if_neg h0]; first | done | rfl) | (simp only [packA]; simp only [h0, if_true, lowQ]; first | done | rfl)) rfl
  · rw [Decidable.not_not] at h0
    simp only [if_pos h0]
    have hg := good_of (mov_chk (plc_mov h0).1)
    have hp := good_pos (mov_chk (plc_mov h0).1)
    have hy : 0 ≤ year ∧ year ≤ 200 := (plc_mov h0).2
    have hgt := turn_good hg
    have hpt := turn_pos hp
    refine W_skip rfl ?_
    refine thenQ_n ?_
    refine W_seq rfl ?_
    refine W_reg rfl ?_
    refine Rv rfl rfl rfl (U_move rfl) rfl rfl ?_
    refine Rv rfl rfl rfl (U_call rfl rfl (turned_p s c (by assumption)) rfl) rfl rfl ?_
    refine Rv rfl rfl rfl (U_move rfl) rfl rfl ?_
    refine Rv rfl rfl rfl (U_call rfl rfl (highest_p (turnS s) none (by assumption) (by assumption) year (by omega)) rfl) rfl rfl ?_
    have hb := high_bd hgt hpt hy
    obtain ⟨hb1, hb2, _, _⟩ := hb
    refine Rv rfl rfl rfl (U_call rfl rfl (minus_p (highQ (turnS s) year) (by omega)) rfl) rfl rfl ?_
    refine Rv rfl rfl rfl (U_move rfl) rfl rfl ?_
    refine Rv rfl rfl rfl (U_move rfl) rfl rfl ?_
    refine Rv rfl rfl rfl (U_call rfl rfl (highest_p s c (by assumption) (by assumption) year (by omega)) rfl) rfl rfl ?_
    refine Rn rfl rfl rfl (U_storeAll rfl rfl rfl rfl rfl rfl) rfl ?_
    refine Rn rfl rfl rfl (U_storeAll rfl rfl rfl rfl rfl rfl) rfl ?_
    refine Rv rfl rfl rfl (U_assign rfl) rfl rfl ?_
    refine Re rfl ?_
    refine thenQ_n ?_
    refine W_ret rfl ?_
    exact retL (rlA rfl rfl rfl (rlA rfl rfl rfl (rlT rfl rl0))) (by first | rfl | (simp only [packA]; simp only [if_neg h0]; first | done | rfl) | (simp only [packA]; simp only [h0, if_true, lowQ]; first | done | rfl)) rfl
theorem motStep_bd {s : Star} (hg : Good s) {year : Int} (hy : 0 ≤ year ∧ year ≤ 200) {p : Int × Int} (hp : Bd 6000000 200 p) : ∀ (l : List Ent) (q : (Int × Int) × (Int × Int)), (∀ e ∈ l, e ∈ s.es) → Bd 8000000 40000 q.1 → Bd 8000000 40000 q.2 → Bd 8000000 40000 (l.foldl (motStep year p) q).1 ∧ Bd 8000000 40000 (l.foldl (motStep year p) q).2
  | [], _, _, h, k => ⟨h, k⟩
  | e :: l, q, hl, h, k => by
    obtain ⟨i, hi, rfl⟩ := List.getElem_of_mem (hl e (by simp))
    have he := hg.es i hi
    have : Bd 8000000 40000 (motStep year p q s.es[i]).1 ∧ Bd 8000000 40000 (motStep year p q s.es[i]).2 := by
      unfold motStep
      split
      · exact ⟨h, k⟩
      · rename_i h0
        have h1 : s.es[i].y - year ≠ 0 := fun e => h0 (.inr e)
        split
        · exact ⟨moreOf_bd h (steep_bd hp (by omega) (by omega) h1), lessOf_bd k (steep_bd hp (by omega) (by omega) h1)⟩
        · exact ⟨moreOf_bd h (steep_bd hp (by omega) (by omega) h1), lessOf_bd k (steep_bd hp (by omega) (by omega) h1)⟩
    exact motStep_bd hg hy hp l _ (fun e he => hl e (by simp [he])) this.1 this.2
theorem motR_bd {s : Star} (hg : Good s) (h0 : 0 < s.es.length) {year : Int} (hy : 0 ≤ year ∧ year ≤ 200) : Bd 8000000 40000 (motR s year) := by
  have := motStep_bd hg hy (high_bd hg h0 hy) s.es (endQ s false, endQ s true) (fun _ h => h) (bd_le (end_bd hg _) (by omega) (by omega)) (bd_le (end_bd hg _) (by omega) (by omega))
  exact lessOf_bd this.1 this.2
theorem motP_bd {s : Star} (hg : Good s) (h0 : 0 < s.es.length) {year : Int} (hy : 0 ≤ year ∧ year ≤ 200) : Bd 600000000000 8000000 (motP s year) := by
  obtain ⟨r1, r2, r3, r4⟩ := motR_bd hg h0 hy
  obtain ⟨p1, p2, p3, p4⟩ := high_bd hg h0 hy
  have m1 := mulB (a := (highQ s year).1) (b := (motR s year).2) (A := 6000000) (B := 40000) (by omega) (by omega) (by omega) (by omega)
  have m2 := mulB (a := (motR s year).1) (b := -year) (A := 8000000) (B := 200) (by omega) (by omega) (by omega) (by omega)
  have m3 := mulB (a := (motR s year).1 * -year) (b := (highQ s year).2) (A := 1600000000) (B := 200) (by omega) (by omega) (by omega) (by omega)
  have m4 := mulB (a := (highQ s year).2) (b := (motR s year).2) (A := 200) (B := 40000) (by omega) (by omega) (by omega) (by omega)
  have m5 : 0 < (highQ s year).2 * (motR s year).2 := Int.mul_pos (by omega) (by omega)
  exact frac_bd (by omega) (by omega) (by omega) (by omega)
def movP (s : Star) (year : Int) (high : Bool) : Int × Int := if high = true then motP s year else (-(motP (turnS s) year).1, (motP (turnS s) year).2)
def movR (s : Star) (year : Int) (high : Bool) : Int × Int := if high = true then motR s year else (-(motR (turnS s) year).1, (motR (turnS s) year).2)
theorem motionOf_p (s : Star) (c : Option Nat) (hl : s.es.length ≤ 1000) (year : Int) (high : Bool) : Pure Try.prog 36 [starA s c, i64 year, .bool high] (.tup [motA (if plcS s year = 0 then movP s year high else (0, 0)) (if plcS s year = 0 then movR s year high else (0, 0)), i64 (plcS s year)]) := by
  refine pure_of_body Try.func36 (c := body Try.f36) rfl (by simp [Try.ntmps36]) fun w0 Φ0 => ?_
  refine W_seq rfl ?_
  refine W_reg rfl ?_
  refine Rv rfl rfl rfl (U_boxF rfl rfl rfl) rfl rfl ?_
  refine Ra rfl rfl rfl (U_alloc) rfl rfl rfl ?_
  refine Rv rfl rfl rfl (U_assign rfl) rfl rfl ?_
  refine Re rfl ?_
  refine thenQ_n ?_
  refine W_seq rfl ?_
  refine W_reg rfl ?_
  refine Rv rfl rfl rfl (U_load3 rfl rfl rfl rfl rfl) rfl rfl ?_
  refine Rv rfl rfl rfl (U_move rfl) rfl rfl ?_
  refine Rv rfl rfl rfl (U_call rfl rfl (placed_p s c (by omega) year) rfl) rfl rfl ?_
  refine Rv rfl rfl rfl (U_move rfl) rfl rfl ?_
  refine Rv rfl rfl rfl (U_extract rfl rfl) rfl rfl ?_
  refine Rv rfl rfl rfl (U_extract rfl rfl) rfl rfl ?_
  refine Rv rfl rfl rfl (U_assign rfl) rfl rfl ?_
  refine Rv rfl rfl rfl (U_assign rfl) rfl rfl ?_
  refine Re rfl ?_
  refine thenQ_n ?_
  refine W_seq rfl ?_
  refine W_seq rfl ?_
  refine W_reg rfl ?_
  refine Rv rfl rfl rfl (U_move rfl) rfl rfl ?_
  refine Rv rfl rfl rfl (U_neq rfl rfl) rfl rfl ?_
  refine Re rfl ?_
  refine thenQ_n ?_
  refine WcondP rfl rfl (fun h0 => ?_) (fun h0 => ?_)
  · simp only [if_neg h0]
    refine W_seq rfl ?_
    refine W_reg rfl ?_
    refine Rv rfl rfl rfl (U_build rfl rfl) rfl rfl ?_
    refine Rv rfl rfl rfl (U_move rfl) rfl rfl ?_
    refine Rn rfl rfl rfl (U_storeAll rfl rfl rfl rfl rfl rfl) rfl ?_
    refine Rv rfl rfl rfl (U_assign rfl) rfl rfl ?_
    refine Re rfl ?_
    refine thenQ_n ?_
    refine W_ret rfl ?_
    refine thenQ_r ?_
    exact retL (rlA rfl rfl rfl (rlT rfl rl0)) (by first | rfl | (simp only [packA]; simp only [if_neg h0]; first | done | rfl) | (simp only [packA]; simp only [h0, if_true, movP, movR, hc1]; first | done | rfl) | (simp only [packA]; simp only [h0, if_true, movP, movR, hc1, Bool.false_eq_true, if_false]; first | done | rfl)) rfl
  · rw [Decidable.not_not] at h0
    simp only [if_pos h0]
    have hg := good_of (mov_chk (plc_mov h0).1)
    have hp := good_pos (mov_chk (plc_mov h0).1)
    have hy : 0 ≤ year ∧ year ≤ 200 := (plc_mov h0).2
    have hgt := turn_good hg
    have hpt := turn_pos hp
    refine W_skip rfl ?_
    refine thenQ_n ?_
    refine W_seq rfl ?_
    refine W_seq rfl ?_
    refine W_reg rfl ?_
    refine Rv rfl rfl rfl (U_move rfl) rfl rfl ?_
    refine Re rfl ?_
    refine thenQ_n ?_
    refine Wcond rfl rfl (fun hc1 => ?_) (fun hc1 => ?_)
    · refine W_seq rfl ?_
      refine W_reg rfl ?_
      refine Rv rfl rfl rfl (U_move rfl) rfl rfl ?_
      refine Rv rfl rfl rfl (U_move rfl) rfl rfl ?_
      refine Rv rfl rfl rfl (U_call rfl rfl (motion_p s c (by assumption) (by assumption) year (by omega)) rfl) rfl rfl ?_
      refine Rn rfl rfl rfl (U_storeAll rfl rfl rfl rfl rfl rfl) rfl ?_
      refine Rv rfl rfl rfl (U_assign rfl) rfl rfl ?_
      refine Re rfl ?_
      refine thenQ_n ?_
      refine W_ret rfl ?_
      refine thenQ_r ?_
      exact retL (rlA rfl rfl rfl (rlT rfl rl0)) (by first | rfl | (simp only [packA]; simp only [if_neg h0]; first | done | rfl) | (simp only [packA]; simp only [h0, if_true, movP, movR, hc1]; first | done | rfl) | (simp only [packA]; simp only [h0, if_true, movP, movR, hc1, Bool.false_eq_true, if_false]; first | done | rfl)) rfl
    · have hc1' := Bool.eq_false_iff.1 hc1
      refine W_skip rfl ?_
      refine thenQ_n ?_
      refine W_seq rfl ?_
      refine W_reg rfl ?_
      refine Rv rfl rfl rfl (U_move rfl) rfl rfl ?_
      refine Rv rfl rfl rfl (U_call rfl rfl (turned_p s c (by assumption)) rfl) rfl rfl ?_
      refine Rv rfl rfl rfl (U_move rfl) rfl rfl ?_
      refine Rv rfl rfl rfl (U_call rfl rfl (motion_p (turnS s) none (by assumption) (by assumption) year (by omega)) rfl) rfl rfl ?_
      refine Ra rfl rfl rfl (U_alloc) rfl rfl rfl ?_
      refine Rn rfl rfl rfl (U_storeAll rfl rfl rfl rfl rfl rfl) rfl ?_
      refine Re rfl ?_
      refine thenQ_n ?_
      refine WfrN 1 rfl rfl (T' := [(6, .ptr 0 0), (10, .rop [i64 ((motP (turnS s) year).1), i64 ((motP (turnS s) year).2), i64 ((motR (turnS s) year).1), i64 ((motR (turnS s) year).2)] 0)]) (H' := [(0, some (.cells [i64 0, i64 0, i64 0, i64 0] 30))]) ⟨⟨_, rfl, rfl⟩, ⟨_, rfl, rfl⟩, trivial⟩ ⟨⟨rfl, rF rfl rfl⟩, trivial⟩ ?_
      refine W_seq rfl ?_
      refine Wdraw rfl (by kernel_rfl) (by kernel_rfl) ?_
      refine Dv rfl rfl rfl (U_fieldAddrR rfl) rfl rfl ?_
      refine Dv rfl rfl rfl (U_load2 rfl rfl rfl rfl) rfl rfl ?_
      have hb := motP_bd hgt hpt hy
      obtain ⟨hb1, hb2, _, _⟩ := hb
      refine Dv rfl rfl rfl (U_call rfl rfl (minus_p (motP (turnS s) year) (by omega)) rfl) rfl rfl ?_
      refine Dv rfl rfl rfl (U_fieldAddrR rfl) rfl rfl ?_
      refine Dv rfl rfl rfl (U_load2 rfl rfl rfl rfl) rfl rfl ?_
      have hb := motR_bd hgt hpt hy
      obtain ⟨hb3, hb4, _, _⟩ := hb
      refine Dv rfl rfl rfl (U_call rfl rfl (minus_p (motR (turnS s) year) (by omega)) rfl) rfl rfl ?_
      refine Dv rfl rfl rfl (U_build rfl rfl) rfl rfl ?_
      refine Dn_ rfl rfl rfl (U_storeAll rfl rfl rfl rfl rfl rfl) rfl rfl ?_
      refine Dv rfl rfl rfl (U_assign rfl) rfl rfl ?_
      refine Dr.nil rfl ?_
      refine thenQ_n ?_
      refine W_ret rfl ?_
      exact retL (rlA rfl rfl rfl (rlT rfl rl0)) (by first | rfl | (simp only [packA]; simp only [if_neg h0]; first | done | rfl) | (simp only [packA]; simp only [h0, if_true, movP, movR, hc1]; first | done | rfl) | (simp only [packA]; simp only [h0, if_true, movP, movR, hc1, Bool.false_eq_true, if_false]; first | done | rfl)) rfl
/-- Whether an entry is marked. -/
def markB (ms : List Int) (i : Nat) : Bool := decide (0 < ms.getD i 0)
theorem mark_get {ms : List Int} {i : Nat} (h : i < ms.length) : markB ms i = decide (0 < ms[i]) := by simp [markB, h]
theorem mark_p (n : Nat) (ms : List Int) (hn : ms.length = n) (i : Nat) (h : i < n) : MutP Try.prog 116 [i64 (i : Nat), .ptr 0 0] [(1, some (.cells (ms.map i64) 3)), (0, some (.cells [.slice 1 0 n n] 56))] 2 (.bool (markB ms i)) [(1, some (.cells (ms.map i64) 3)), (0, some (.cells [.slice 1 0 n n] 56))] 2 := by
  refine mut_of_body Try.func116 (c := body Try.f116) rfl (by decide) (by simp [Try.ntmps116]) fun w0 Φ0 ρ0 => ?_
  refine W_seq rfl ?_
  refine W_reg rfl ?_
  refine Rv rfl rfl rfl (U_assign rfl) rfl rfl ?_
  refine Re rfl ?_
  refine thenQ_n ?_
  refine W_seq rfl ?_
  refine W_reg rfl ?_
  refine Rv rfl rfl rfl (U_load1 rfl rfl rfl) rfl rfl ?_
  refine Rv rfl rfl rfl (U_move rfl) rfl rfl ?_
  have hx1 : i < ms.length := by omega
  refine Rv rfl rfl rfl (U_indexS (j := i) rfl rfl rfl (by omega)) rfl rfl ?_
  refine Rv rfl rfl rfl (U_load1 rfl rfl (getM0 hx1)) rfl rfl ?_
  refine Rv rfl rfl rfl (U_gtr rfl rfl) rfl rfl ?_
  refine Rv rfl rfl rfl (U_assign rfl) rfl rfl ?_
  refine Re rfl ?_
  refine thenQ_n ?_
  refine W_ret rfl ?_
  exact retTo (T' := [(3, .bool (decide (0 < ms[i])))]) id ⟨eD rfl rfl, trivial⟩ ⟨rD (mapD (fun _ => rfl) _) rfl rfl, r_ rfl rfl rfl, trivial⟩ rfl rfl (fun _ _ => rfl) (rlT rfl rl0) (by first | rfl | (simp only [packA]; rw [mark_get (by omega)]; first | done | rfl))
theorem withoutM_p (s : Star) (c : Option Nat) (hl : s.es.length ≤ 1000) (n : Nat) (ms : List Int) (hn : ms.length = n) (hm : n = s.es.length) : MutP Try.prog 94 [cardA s c, .fn 116 [] [.ptr 0 0]] [(1, some (.cells (ms.map i64) 3)), (0, some (.cells [.slice 1 0 n n] 56))] 2 (cardA (withoutS s (markB ms)) none) [(1, some (.cells (ms.map i64) 3)), (0, some (.cells [.slice 1 0 n n] 56))] 2 := by
  refine mut_of_body Try.func94 (c := body Try.f94) rfl (by decide) (by simp [Try.ntmps94]) fun w0 Φ0 ρ0 => ?_
  refine W_seq rfl ?_
  refine W_reg rfl ?_
  refine Rv rfl rfl rfl (U_assign rfl) rfl rfl ?_
  refine Re rfl ?_
  refine thenQ_n ?_
  refine W_seq rfl ?_
  refine W_reg rfl ?_
  refine Rv rfl rfl rfl (U_move rfl) rfl rfl ?_
  refine Rv rfl rfl rfl (U_nilCheckR rfl) rfl rfl ?_
  refine Rv rfl rfl rfl (U_fieldAddrR rfl) rfl rfl ?_
  refine Rv rfl rfl rfl (U_fieldAddrR rfl) rfl rfl ?_
  refine Rv rfl rfl rfl (U_load2 rfl rfl rfl rfl) rfl rfl ?_
  refine Rv rfl rfl rfl (U_build rfl rfl) rfl rfl ?_
  refine Rv rfl rfl rfl (U_build rfl rfl) rfl rfl ?_
  refine Ra rfl rfl rfl (U_box rfl rfl) rfl rfl rfl ?_
  refine Rv rfl rfl rfl (U_assign rfl) rfl rfl ?_
  refine Re rfl ?_
  refine thenQ_n ?_
  refine W_seq rfl ?_
  refine W_seq rfl ?_
  refine W_reg rfl ?_
  refine Rv rfl rfl rfl (U_move rfl) rfl rfl ?_
  refine Rv rfl rfl rfl (U_nilCheckR rfl) rfl rfl ?_
  refine Rv rfl rfl rfl (U_fieldAddrR rfl) rfl rfl ?_
  refine Rv rfl rfl rfl (U_fieldAddrR rfl) rfl rfl ?_
  refine Rv rfl rfl rfl (U_load1 rfl rfl rfl) rfl rfl ?_
  refine Rv rfl rfl rfl (U_lenOf rfl len_ros) rfl rfl ?_
  refine Rv rfl rfl rfl (U_move rfl) rfl rfl ?_
  refine Re rfl ?_
  refine thenQ_n ?_
  refine W_block rfl ?_
  refine WweakH (b := 2) (cs' := [i64 s.lo, i64 s.hi, .out 3 0 3]) rfl (leL_cons (le_refl _) (leL_cons (le_refl _) (leL_cons le_nils_out (leL_refl _)))) ?_
  refine LoopTo (T' := [(1, .fn 116 [] [.ptr 0 0]), (5, .ptr 2 0), (20, .ros (s.es.flatMap entC) s.es.length c), (21, i64 ((s.es.length : Nat) : Int)), (22, i64 ((0 : Nat) : Int))]) (H' := [(0, some (.cells [.slice 1 0 n n] 56)), (1, some (.cells (ms.map i64) 3)), (2, some (.cells [i64 s.lo, i64 s.hi, .out 3 [].length 3] 132)), (3, outB ([].flatMap entC) 76 [].length)]) (n := 4) rfl (fun mz_ qz_ => ∃ (k : Nat) (l : List Ent), k ≤ s.es.length ∧ l = kept (markB ms) s.es k ∧ mz_ = s.es.length - k ∧ qz_ = ⟨[(1, .fn 116 [] [.ptr 0 0]), (5, .ptr 2 0), (20, .ros (s.es.flatMap entC) s.es.length c), (21, i64 ((s.es.length : Nat) : Int)), (22, i64 ((k : Nat) : Int))], [(0, some (.cells [.slice 1 0 n n] 56)), (1, some (.cells (ms.map i64) 3)), (2, some (.cells [i64 s.lo, i64 s.hi, .out 3 l.length 3] 132)), (3, outB (l.flatMap entC) 76 l.length)], 4, []⟩) ⟨0, [], (by omega), rfl, rfl, rfl⟩ id ⟨e_ rfl rfl, e_ rfl rfl, eD rfl rfl, eD rfl rfl, eD rfl rfl, trivial⟩ ⟨r_ rfl rfl rfl, rD (mapD (fun _ => rfl) _) rfl rfl, r_ rfl rfl rfl, rO0 rfl, trivial⟩ rfl rfl rfl rfl (fun _ _ => rfl) ?_
  rintro _ _ ⟨k, l, hi0_0, hi0_1, rfl, rfl⟩
  refine W_seq rfl ?_
  refine W_reg rfl ?_
  refine Rv rfl rfl rfl (U_lss rfl rfl) rfl rfl ?_
  refine Re rfl ?_
  refine thenQ_n ?_
  refine W_seq rfl ?_
  refine WcondP rfl rfl (fun hc0 => ?_) (fun hc0 => ?_)
  · have hck : k < s.es.length := by omega
    refine W_skip rfl ?_
    refine thenQ_n ?_
    refine W_seq rfl ?_
    refine W_block rfl ?_
    refine W_seq rfl ?_
    refine W_reg rfl ?_
    refine Rv rfl rfl rfl (U_move rfl) rfl rfl ?_
    have hx1 : k < s.es.length := by omega
    refine Rv rfl rfl rfl (U_indexR (j := k) rfl rfl rfl hx1) rfl rfl ?_
    refine Rv rfl rfl rfl (U_load3 rfl rfl (ent0 hx1) (ent1 hx1) (ent2 hx1)) rfl rfl ?_
    refine Ra rfl rfl rfl (U_alloc) rfl rfl rfl ?_
    refine Rv rfl rfl rfl (U_assign rfl) rfl rfl ?_
    refine Rn rfl rfl rfl (U_storeAll rfl rfl rfl rfl rfl rfl) rfl ?_
    refine Re rfl ?_
    refine thenQ_n ?_
    refine WfrN 4 rfl rfl (T' := [(1, .fn 116 [] [.ptr 0 0]), (5, .ptr 2 0), (6, i64 ((k : Nat) : Int)), (7, .rop [i64 s.es[k].y, i64 s.es[k].lo, i64 s.es[k].hi] 0), (20, .ros (s.es.flatMap entC) s.es.length c), (21, i64 ((s.es.length : Nat) : Int)), (22, i64 ((k : Nat) : Int))]) (H' := [(0, some (.cells [.slice 1 0 n n] 56)), (1, some (.cells (ms.map i64) 3)), (2, some (.cells [i64 s.lo, i64 s.hi, .out 3 l.length 3] 132)), (3, outB (l.flatMap entC) 76 l.length)]) ⟨⟨_, rfl, rfl⟩, ⟨_, rfl, rfl⟩, ⟨_, rfl, rfl⟩, ⟨_, rfl, rfl⟩, ⟨_, rfl, rfl⟩, ⟨_, rfl, rfl⟩, ⟨_, rfl, rfl⟩, trivial⟩ ⟨⟨rfl, rF rfl rfl⟩, ⟨rfl, rFD (mapD (fun _ => rfl) _) rfl⟩, ⟨rfl, rF rfl rfl⟩, ⟨rfl, rFO (flatD (fun _ => rfl) _) rfl⟩, trivial⟩ ?_
    refine W_seq rfl ?_
    refine W_reg rfl ?_
    refine Rv rfl rfl rfl (U_move rfl) rfl rfl ?_
    refine Rv rfl rfl rfl (U_move rfl) rfl rfl ?_
    refine Ra rfl rfl rfl (U_callT (mapN [0, 1]) rfl rfl (mark_p n ms (by omega) k (by omega)) rfl rfl ⟨rD (mapD (fun _ => rfl) _) rfl rfl, r_ rfl rfl rfl, trivial⟩ rfl rfl) rfl rfl rfl ?_
    refine Rto (T' := [(1, .fn 116 [] [.ptr 0 0]), (5, .ptr 2 0), (7, .rop [i64 s.es[k].y, i64 s.es[k].lo, i64 s.es[k].hi] 0), (20, .ros (s.es.flatMap entC) s.es.length c), (21, i64 ((s.es.length : Nat) : Int)), (22, i64 ((k : Nat) : Int)), (29, .bool (markB ms k))]) (H' := [(0, some (.cells [.slice 1 0 n n] 56)), (1, some (.cells (ms.map i64) 3)), (2, some (.cells [i64 s.lo, i64 s.hi, .out 3 l.length 3] 132)), (3, outB (l.flatMap entC) 76 l.length)]) (n := 5) id ⟨e_ rfl rfl, e_ rfl rfl, eD rfl rfl, eD rfl rfl, eD rfl rfl, eD rfl rfl, eD rfl rfl, trivial⟩ ⟨r_ rfl rfl rfl, rMD (mapD (fun _ => rfl) _) rfl rfl, r_ rfl rfl rfl, rO (flatD (fun _ => rfl) _) rfl rfl, trivial⟩ rfl rfl rfl rfl (fun _ _ => rfl) ?_
    refine Rv rfl rfl rfl (U_not rfl) rfl rfl ?_
    refine Re rfl ?_
    refine thenQ_n ?_
    refine Wcond rfl rfl (fun hc1 => ?_) (fun hc1 => ?_)
    · refine Wjoin ⟨[(1, .fn 116 [] [.ptr 0 0]), (5, .ptr 2 0), (20, .ros (s.es.flatMap entC) s.es.length c), (21, i64 ((s.es.length : Nat) : Int)), (22, i64 ((k : Nat) : Int))], [(0, some (.cells [.slice 1 0 n n] 56)), (1, some (.cells (ms.map i64) 3)), (2, some (.cells [i64 s.lo, i64 s.hi, .out 5 ((l ++ [s.es[k]]).length) 3] 132)), (5, outB ((l ++ [s.es[k]]).flatMap entC) 76 ((l ++ [s.es[k]]).length))], 6, []⟩ ?_ ?_
      · rcases Nat.eq_zero_or_pos l.length with hz2 | hz2
        · refine Wdraw rfl (by kernel_rfl) (by kernel_rfl) ?_
          refine Dv rfl rfl rfl (U_move rfl) rfl rfl ?_
          refine Dv rfl rfl rfl (U_move rfl) rfl rfl ?_
          refine Dv rfl rfl rfl (U_nilCheck rfl) rfl rfl ?_
          refine Dv rfl rfl rfl (U_fieldAddr rfl) rfl rfl ?_
          refine Dv rfl rfl rfl (U_fieldAddr rfl) rfl rfl ?_
          refine Dv rfl rfl rfl (U_load1 rfl rfl rfl) rfl rfl ?_
          refine Dv rfl rfl rfl (U_load3 rfl rfl rfl rfl rfl) rfl rfl ?_
          refine Dv rfl rfl rfl (U_buildSliceF (by rfl) (by decide) rfl rfl rfl) rfl rfl ?_
          have hll := kept_len (markB ms) s.es k
          rw [← hi0_1] at hll
          refine Da rfl rfl rfl (U_appO0 (b := 3) (cs := (l.flatMap entC)) (m := 0) (cs' := (l ++ [s.es[k]]).flatMap entC) (n' := (l ++ [s.es[k]]).length) rfl hz2 rfl (by simp) (flat_len (z := 3) (fun _ => rfl) _) rfl (by omega) (appF _ _) (len1 _ _)) rfl rfl rfl rfl ?_
          refine Dv rfl rfl rfl (U_nilCheck rfl) rfl rfl ?_
          refine Dv rfl rfl rfl (U_fieldAddr rfl) rfl rfl ?_
          refine Dv rfl rfl rfl (U_fieldAddr rfl) rfl rfl ?_
          refine Dn_ rfl rfl rfl (U_store rfl rfl rfl rfl rfl (Nat.le_of_ble_eq_true rfl) rfl rfl) rfl rfl ?_
          refine Dr.nil rfl ?_
          exact joinTo id ⟨e_ rfl rfl, e_ rfl rfl, eD rfl rfl, eD rfl rfl, eD rfl rfl, trivial⟩ ⟨r_ rfl rfl rfl, rD (mapD (fun _ => rfl) _) rfl rfl, r_ rfl rfl rfl, rO (flatD (fun _ => rfl) _) rfl rfl, trivial⟩ rfl rfl rfl rfl (fun _ _ => rfl)
        · refine Wdraw rfl (by kernel_rfl) (by kernel_rfl) ?_
          refine Dv rfl rfl rfl (U_move rfl) rfl rfl ?_
          refine Dv rfl rfl rfl (U_move rfl) rfl rfl ?_
          refine Dv rfl rfl rfl (U_nilCheck rfl) rfl rfl ?_
          refine Dv rfl rfl rfl (U_fieldAddr rfl) rfl rfl ?_
          refine Dv rfl rfl rfl (U_fieldAddr rfl) rfl rfl ?_
          refine Dv rfl rfl rfl (U_load1 rfl rfl rfl) rfl rfl ?_
          refine Dv rfl rfl rfl (U_load3 rfl rfl rfl rfl rfl) rfl rfl ?_
          refine Dv rfl rfl rfl (U_buildSliceF (by rfl) (by decide) rfl rfl rfl) rfl rfl ?_
          have hll := kept_len (markB ms) s.es k
          rw [← hi0_1] at hll
          refine Da rfl rfl rfl (U_appO (b := 3) (m := 0) (cs' := (l ++ [s.es[k]]).flatMap entC) (n' := (l ++ [s.es[k]]).length) rfl rfl (by simp) rfl (flat_len (z := 3) (fun _ => rfl) _) rfl rfl (by omega) (appF _ _) (len1 _ _)) rfl rfl rfl (upsO rfl hz2) ?_
          refine Dv rfl rfl rfl (U_nilCheck rfl) rfl rfl ?_
          refine Dv rfl rfl rfl (U_fieldAddr rfl) rfl rfl ?_
          refine Dv rfl rfl rfl (U_fieldAddr rfl) rfl rfl ?_
          refine Dn_ rfl rfl rfl (U_store rfl rfl rfl rfl rfl (Nat.le_of_ble_eq_true rfl) rfl rfl) rfl rfl ?_
          refine Dr.nil rfl ?_
          exact joinTo id ⟨e_ rfl rfl, e_ rfl rfl, eD rfl rfl, eD rfl rfl, eD rfl rfl, trivial⟩ ⟨r_ rfl rfl rfl, rD (mapD (fun _ => rfl) _) rfl rfl, r_ rfl rfl rfl, rO (flatD (fun _ => rfl) _) rfl rfl, trivial⟩ rfl rfl rfl rfl (fun _ _ => rfl)
      refine blkQ_n ?_
      refine thenQ_n ?_
      refine W_reg rfl ?_
      refine Rv rfl rfl rfl (U_add rfl rfl (w64e (m := ((k + 1 : Nat) : Int)) (by omega) (by omega) (by omega))) rfl rfl ?_
      refine Rv rfl rfl rfl (U_move rfl) rfl rfl ?_
      refine Re rfl ?_
      refine thenQ_n ?_
      exact againTo (T' := [(1, .fn 116 [] [.ptr 0 0]), (5, .ptr 2 0), (20, .ros (s.es.flatMap entC) s.es.length c), (21, i64 ((s.es.length : Nat) : Int)), (22, i64 (((k + 1) : Nat) : Int))]) (H' := [(0, some (.cells [.slice 1 0 n n] 56)), (1, some (.cells (ms.map i64) 3)), (2, some (.cells [i64 s.lo, i64 s.hi, .out 3 (l ++ [s.es[k]]).length 3] 132)), (3, outB ((l ++ [s.es[k]]).flatMap entC) 76 (l ++ [s.es[k]]).length)]) (n := 4) (s.es.length - (k + 1)) ⟨k + 1, l ++ [s.es[k]], (by omega), (by simp at hc1; simp [kept, hc1, hck, hi0_1]), rfl, rfl⟩ (by omega) (mapN [0, 1, 2, 5]) ⟨e_ rfl rfl, e_ rfl rfl, eD rfl rfl, eD rfl rfl, eD rfl rfl, trivial⟩ ⟨r_ rfl rfl rfl, rD (mapD (fun _ => rfl) _) rfl rfl, r_ rfl rfl rfl, rO (flatD (fun _ => rfl) _) rfl rfl, trivial⟩ rfl rfl rfl rfl (fun b h => by match b, h with | 0, _ => rfl | 1, _ => rfl)
    · have hc1' := Bool.eq_false_iff.1 hc1
      refine W_skip rfl ?_
      refine blkQ_n ?_
      refine thenQ_n ?_
      refine W_reg rfl ?_
      refine Rv rfl rfl rfl (U_add rfl rfl (w64e (m := ((k + 1 : Nat) : Int)) (by omega) (by omega) (by omega))) rfl rfl ?_
      refine Rv rfl rfl rfl (U_move rfl) rfl rfl ?_
      refine Re rfl ?_
      refine thenQ_n ?_
      exact againTo (T' := [(1, .fn 116 [] [.ptr 0 0]), (5, .ptr 2 0), (20, .ros (s.es.flatMap entC) s.es.length c), (21, i64 ((s.es.length : Nat) : Int)), (22, i64 (((k + 1) : Nat) : Int))]) (H' := [(0, some (.cells [.slice 1 0 n n] 56)), (1, some (.cells (ms.map i64) 3)), (2, some (.cells [i64 s.lo, i64 s.hi, .out 3 l.length 3] 132)), (3, outB (l.flatMap entC) 76 l.length)]) (n := 4) (s.es.length - (k + 1)) ⟨k + 1, l, (by omega), (by simp at hc1; simp [kept, hc1, hck, hi0_1]), rfl, rfl⟩ (by omega) id ⟨e_ rfl rfl, e_ rfl rfl, eD rfl rfl, eD rfl rfl, eD rfl rfl, trivial⟩ ⟨r_ rfl rfl rfl, rD (mapD (fun _ => rfl) _) rfl rfl, r_ rfl rfl rfl, rO (flatD (fun _ => rfl) _) rfl rfl, trivial⟩ rfl rfl rfl rfl (fun _ _ => rfl)
  · refine W_exit rfl ?_
    refine thenQ_x ?_
    refine thenQ_x ?_
    refine blkQ_x rfl ?_
    refine thenQ_n ?_
    refine W_seq rfl ?_
    refine W_reg rfl ?_
    refine Rv rfl rfl rfl (U_move rfl) rfl rfl ?_
    refine Rv rfl rfl rfl (U_assign rfl) rfl rfl ?_
    refine Re rfl ?_
    refine thenQ_n ?_
    refine WfrO 3 (l.flatMap entC) rfl (flatD (fun _ => rfl) _) (T' := [(4, .ptr 2 0)]) (H' := [(0, some (.cells [.slice 1 0 n n] 56)), (1, some (.cells (ms.map i64) 3)), (2, some (.cells [i64 s.lo, i64 s.hi, .ros (l.flatMap entC) l.length none] 132))]) ⟨fS rfl rfl, trivial⟩ ⟨⟨rfl, .cells (.cons (.same rfl) .nil)⟩, ⟨rfl, .cells (.same (nobL_data _ (mapD (fun _ => rfl) _)))⟩, ⟨rfl, .cells (.cons (.same rfl) (.cons (.same rfl) (.cons .out .nil)))⟩, trivial⟩ ?_
    refine WfrN 2 rfl rfl (T' := [(4, .rop [i64 s.lo, i64 s.hi, .ros (l.flatMap entC) l.length none] 0)]) (H' := [(0, some (.cells [.slice 1 0 n n] 56)), (1, some (.cells (ms.map i64) 3))]) ⟨⟨_, rfl, rfl⟩, trivial⟩ ⟨⟨rfl, rF rfl rfl⟩, ⟨rfl, rFD (mapD (fun _ => rfl) _) rfl⟩, trivial⟩ ?_
    refine W_ret rfl ?_
    obtain rfl : k = s.es.length := by omega
    exact retTo (T' := [(4, .rop [i64 s.lo, i64 s.hi, .ros (l.flatMap entC) l.length none] 0)]) id ⟨eD rfl rfl, trivial⟩ ⟨rD (mapD (fun _ => rfl) _) rfl rfl, r_ rfl rfl rfl, trivial⟩ rfl rfl (fun _ _ => rfl) (rlT rfl rl0) (by first | rfl | (simp only [packA]; subst hi0_1; first | done | rfl))
abbrev listA (l : List Int) : AV := intsA l none
abbrev listsA (l : List (List Int)) (c : Option Nat) : AV := .ros (l.map listA) l.length c
/-- Whether some motion agrees without the entries that are marked. -/
def okB (s : Star) (ms : List Int) : Bool := hasB (withoutS s (markB ms))
/-- The marked ones. -/
def picked (ms : List Int) (k : Nat) : List Int := ((List.range k).filter (markB ms)).map fun i : Nat => (i : Int)
def pickL (s : Star) : Nat → Nat → List Int → List (List Int)
  | 0, _, ms => if okB s ms = true then [picked ms ms.length] else []
  | m + 1, i, ms => (List.range' i (ms.length - i - m)).flatMap fun j => pickL s m (j + 1) (ms.set j 1)
theorem picked_len (ms : List Int) (k : Nat) : (picked ms k).length ≤ k := by
  have := List.length_filter_le (markB ms) (List.range k); simpa [picked] using this
theorem picked_succ (ms : List Int) (k : Nat) : picked ms (k + 1) = if markB ms k = true then picked ms k ++ [(k : Int)] else picked ms k := by
  simp only [picked, List.range_succ, List.filter_append, List.map_append]
  by_cases h : markB ms k = true
  · simp [h]
  · simp [h]
theorem pick0_p (s : Star) (c : Option Nat) (hg : Good s) (hl : s.es.length ≤ 12) (n : Nat) (hn : n = s.es.length) (i : Nat) (hi : i ≤ n) (ms : List Int) (hm : ms.length = n) (ll : List (List Int)) (hll : ll.length + 1 ≤ 1000000) : MutP Try.prog 110 [cardA s c, i64 0, i64 (i : Nat), .slice 0 0 n n, .ptr 1 0] [(0, some (.cells (ms.map i64) 3)), (1, some (.cells [.out 2 ((ll).length) 1] 119)), (2, outB (ll.map listA) 56 ll.length)] 3 (.tup []) [(0, some (.cells (ms.map i64) 3)), (1, some (.cells [.out 4 ((ll ++ pickL s 0 i ms).length) 1] 119)), (4, outB ((ll ++ pickL s 0 i ms).map listA) 56 ((ll ++ pickL s 0 i ms).length))] 5 := by
  refine mut_of_body Try.func110 (c := body Try.f110) rfl (by decide) (by simp [Try.ntmps110]) fun w0 Φ0 ρ0 => ?_
  refine W_seq rfl ?_
  refine W_reg rfl ?_
  refine Ra rfl rfl rfl (U_box rfl rfl) rfl rfl rfl ?_
  refine Re rfl ?_
  refine thenQ_n ?_
  refine W_seq rfl ?_
  refine W_seq rfl ?_
  refine W_reg rfl ?_
  refine Rv rfl rfl rfl (U_move rfl) rfl rfl ?_
  refine Rv rfl rfl rfl (U_eql rfl rfl) rfl rfl ?_
  refine Re rfl ?_
  refine thenQ_n ?_
  refine WcondP rfl rfl (fun _ => ?_) (fun h => absurd (by decide) h)
  refine W_seq rfl ?_
  refine W_seq rfl ?_
  refine W_reg rfl ?_
  refine Rv rfl rfl rfl (U_move rfl) rfl rfl ?_
  refine Rv rfl rfl rfl (U_makeFunc rfl rfl) rfl rfl ?_
  refine Ra rfl rfl rfl (U_callT (mapN [3, 0]) rfl rfl (withoutM_p s c (by omega) n ms (by omega) (by omega)) rfl rfl ⟨rD (mapD (fun _ => rfl) _) rfl rfl, r_ rfl rfl rfl, trivial⟩ rfl rfl) rfl rfl rfl ?_
  refine Rto (T' := [(4, .ptr 1 0), (8, .ptr 3 0), (18, .rop [i64 ((withoutS s (markB ms)).lo), i64 ((withoutS s (markB ms)).hi), .ros (((withoutS s (markB ms)).es).flatMap entC) (((withoutS s (markB ms)).es).length) none] 0)]) (H' := [(0, some (.cells (ms.map i64) 3)), (1, some (.cells [.out 2 ((ll).length) 1] 119)), (2, outB (ll.map listA) 56 ll.length), (3, some (.cells [.slice 0 0 n n] 56))]) (n := 4) id ⟨e_ rfl rfl, e_ rfl rfl, eD rfl rfl, trivial⟩ ⟨rMD (mapD (fun _ => rfl) _) rfl rfl, r_ rfl rfl rfl, rO (mapD (fun _ => rfl) _) rfl rfl, r_ rfl rfl rfl, trivial⟩ rfl rfl rfl rfl (fun _ _ => rfl) ?_
  refine Rv rfl rfl rfl (U_call rfl rfl (has_p (withoutS s (markB ms)) none (good_without hg _)) rfl) rfl rfl ?_
  refine Re rfl ?_
  refine thenQ_n ?_
  refine Wcond rfl rfl (fun hc1 => ?_) (fun hc1 => ?_)
  · have hp : pickL s 0 i ms = [picked ms ms.length] := by simp [pickL, okB, hc1]
    refine W_seq rfl ?_
    refine W_reg rfl ?_
    refine Rv rfl rfl rfl (U_assign rfl) rfl rfl ?_
    refine Re rfl ?_
    refine thenQ_n ?_
    refine W_seq rfl ?_
    refine W_seq rfl ?_
    refine W_reg rfl ?_
    refine Rv rfl rfl rfl (U_load1 rfl rfl rfl) rfl rfl ?_
    refine Rv rfl rfl rfl (U_lenOf rfl len_slice) rfl rfl ?_
    refine Rv rfl rfl rfl (U_move rfl) rfl rfl ?_
    refine Re rfl ?_
    refine thenQ_n ?_
    refine W_block rfl ?_
    refine LoopTo (T' := [(4, .ptr 1 0), (10, .out 4 [].length 1), (20, .slice 0 0 n n), (21, i64 ((n : Nat) : Int)), (22, i64 ((0 : Nat) : Int))]) (H' := [(0, some (.cells (ms.map i64) 3)), (1, some (.cells [.out 2 ((ll).length) 1] 119)), (2, outB (ll.map listA) 56 ll.length), (4, outB ([].map i64) 3 [].length)]) (n := 5) rfl (fun mz_ qz_ => ∃ (k : Nat) (l : List Int), k ≤ n ∧ l = picked ms k ∧ mz_ = n - k ∧ qz_ = ⟨[(4, .ptr 1 0), (10, .out 4 l.length 1), (20, .slice 0 0 n n), (21, i64 ((n : Nat) : Int)), (22, i64 ((k : Nat) : Int))], [(0, some (.cells (ms.map i64) 3)), (1, some (.cells [.out 2 ((ll).length) 1] 119)), (2, outB (ll.map listA) 56 ll.length), (4, outB (l.map i64) 3 l.length)], 5, []⟩) ⟨0, [], (by omega), rfl, rfl, rfl⟩ id ⟨e_ rfl rfl, eW rfl le_nils_out rfl, e_ rfl rfl, eD rfl rfl, eD rfl rfl, trivial⟩ ⟨rD (mapD (fun _ => rfl) _) rfl rfl, r_ rfl rfl rfl, rO (mapD (fun _ => rfl) _) rfl rfl, rO0 rfl, trivial⟩ rfl rfl rfl rfl (fun _ _ => rfl) ?_
    rintro _ _ ⟨k, l, hi0_0, hi0_1, rfl, rfl⟩
    refine W_seq rfl ?_
    refine W_reg rfl ?_
    refine Rv rfl rfl rfl (U_lss rfl rfl) rfl rfl ?_
    refine Re rfl ?_
    refine thenQ_n ?_
    refine W_seq rfl ?_
    refine WcondP rfl rfl (fun hc2 => ?_) (fun hc2 => ?_)
    · have hck : k < ms.length := by omega
      refine W_skip rfl ?_
      refine thenQ_n ?_
      refine W_seq rfl ?_
      refine W_block rfl ?_
      refine W_seq rfl ?_
      refine W_reg rfl ?_
      refine Rv rfl rfl rfl (U_move rfl) rfl rfl ?_
      have hx1 : k < ms.length := by omega
      refine Rv rfl rfl rfl (U_indexS (j := k) rfl rfl rfl (by omega)) rfl rfl ?_
      refine Rv rfl rfl rfl (U_load1 rfl rfl (getM0 hx1)) rfl rfl ?_
      refine Rv rfl rfl rfl (U_assign rfl) rfl rfl ?_
      refine Rv rfl rfl rfl (U_assign rfl) rfl rfl ?_
      refine Re rfl ?_
      refine thenQ_n ?_
      refine W_seq rfl ?_
      refine W_reg rfl ?_
      refine Rv rfl rfl rfl (U_move rfl) rfl rfl ?_
      refine Rv rfl rfl rfl (U_gtr rfl rfl) rfl rfl ?_
      refine Re rfl ?_
      refine thenQ_n ?_
      refine WcondP rfl rfl (fun hc3 => ?_) (fun hc3 => ?_)
      · refine W_reg rfl ?_
        refine Rv rfl rfl rfl (U_move rfl) rfl rfl ?_
        refine Rv rfl rfl rfl (U_move rfl) rfl rfl ?_
        refine Rv rfl rfl rfl (U_buildSliceF (by rfl) (by decide) rfl rfl rfl) rfl rfl ?_
        have hpl := picked_len ms k
        rw [← hi0_1] at hpl
        refine Ra rfl rfl rfl (U_appO (b := 4) (m := 0) (cs' := (l ++ [((k : Nat) : Int)]).map i64) (n' := (l ++ [((k : Nat) : Int)]).length) rfl rfl (by simp) rfl (map_len1 _) rfl rfl (by omega) (appM _ _) (len1 _ _)) rfl rfl rfl ?_
        refine Rv rfl rfl rfl (U_assign rfl) rfl rfl ?_
        refine Re rfl ?_
        refine blkQ_n ?_
        refine thenQ_n ?_
        refine W_reg rfl ?_
        refine Rv rfl rfl rfl (U_add rfl rfl (w64e (m := ((k + 1 : Nat) : Int)) (by omega) (by omega) (by omega))) rfl rfl ?_
        refine Rv rfl rfl rfl (U_move rfl) rfl rfl ?_
        refine Re rfl ?_
        refine thenQ_n ?_
        exact againTo (T' := [(4, .ptr 1 0), (10, .out 4 (l ++ [((k : Nat) : Int)]).length 1), (20, .slice 0 0 n n), (21, i64 ((n : Nat) : Int)), (22, i64 (((k + 1) : Nat) : Int))]) (H' := [(0, some (.cells (ms.map i64) 3)), (1, some (.cells [.out 2 ((ll).length) 1] 119)), (2, outB (ll.map listA) 56 ll.length), (4, outB ((l ++ [((k : Nat) : Int)]).map i64) 3 (l ++ [((k : Nat) : Int)]).length)]) (n := 5) (n - (k + 1)) ⟨k + 1, l ++ [((k : Nat) : Int)], (by omega), (by rw [picked_succ, mark_get hck]; simp [hc3, hi0_1]), rfl, rfl⟩ (by omega) (mapN [0, 1, 2, 3, 5]) ⟨e_ rfl rfl, e_ rfl rfl, e_ rfl rfl, eD rfl rfl, eD rfl rfl, trivial⟩ ⟨rD (mapD (fun _ => rfl) _) rfl rfl, r_ rfl rfl rfl, rO (mapD (fun _ => rfl) _) rfl rfl, rO (mapD (fun _ => rfl) _) rfl rfl, trivial⟩ rfl rfl rfl rfl (fun b h => by match b, h with | 0, _ => rfl | 1, _ => rfl | 2, _ => rfl)
      · refine W_skip rfl ?_
        refine blkQ_n ?_
        refine thenQ_n ?_
        refine W_reg rfl ?_
        refine Rv rfl rfl rfl (U_add rfl rfl (w64e (m := ((k + 1 : Nat) : Int)) (by omega) (by omega) (by omega))) rfl rfl ?_
        refine Rv rfl rfl rfl (U_move rfl) rfl rfl ?_
        refine Re rfl ?_
        refine thenQ_n ?_
        exact againTo (T' := [(4, .ptr 1 0), (10, .out 4 l.length 1), (20, .slice 0 0 n n), (21, i64 ((n : Nat) : Int)), (22, i64 (((k + 1) : Nat) : Int))]) (H' := [(0, some (.cells (ms.map i64) 3)), (1, some (.cells [.out 2 ((ll).length) 1] 119)), (2, outB (ll.map listA) 56 ll.length), (4, outB (l.map i64) 3 l.length)]) (n := 5) (n - (k + 1)) ⟨k + 1, l, (by omega), (by rw [picked_succ, mark_get hck]; simp [hc3, hi0_1]), rfl, rfl⟩ (by omega) id ⟨e_ rfl rfl, e_ rfl rfl, e_ rfl rfl, eD rfl rfl, eD rfl rfl, trivial⟩ ⟨rD (mapD (fun _ => rfl) _) rfl rfl, r_ rfl rfl rfl, rO (mapD (fun _ => rfl) _) rfl rfl, rO (mapD (fun _ => rfl) _) rfl rfl, trivial⟩ rfl rfl rfl rfl (fun _ _ => rfl)
    · obtain rfl : k = n := by omega
      subst hm
      refine W_exit rfl ?_
      refine thenQ_x ?_
      refine thenQ_x ?_
      refine blkQ_x rfl ?_
      refine thenQ_n ?_
      refine WfrO 4 (l.map i64) rfl (mapD (fun _ => rfl) _) (T' := [(4, .ptr 1 0), (10, .ros (l.map i64) l.length none)]) (H' := [(0, some (.cells (ms.map i64) 3)), (1, some (.cells [.out 2 ((ll).length) 1] 119)), (2, outB (ll.map listA) 56 ll.length)]) ⟨fS rfl rfl, fO rfl, trivial⟩ ⟨⟨rfl, .cells (.same (nobL_data _ (mapD (fun _ => rfl) _)))⟩, ⟨rfl, .cells (.cons (.same rfl) .nil)⟩, ⟨rfl, .out (mapD (fun _ => rfl) _)⟩, trivial⟩ ?_
      refine W_reg rfl ?_
      refine Rv rfl rfl rfl (U_move rfl) rfl rfl ?_
      refine Rv rfl rfl rfl (U_move rfl) rfl rfl ?_
      refine Rv rfl rfl rfl (U_nilCheck rfl) rfl rfl ?_
      refine Rv rfl rfl rfl (U_load1 rfl rfl rfl) rfl rfl ?_
      refine Rv rfl rfl rfl (U_move rfl) rfl rfl ?_
      refine Rv rfl rfl rfl (U_buildSliceF (by rfl) (by decide) rfl rfl rfl) rfl rfl ?_
      refine Ra rfl rfl rfl (U_appO (b := 2) (m := 0) (cs' := (ll ++ [l]).map listA) (n' := (ll ++ [l]).length) rfl rfl (by simp) rfl (map_len1 _) rfl rfl (by omega) (appM _ _) (len1 _ _)) rfl rfl rfl ?_
      refine Rv rfl rfl rfl (U_nilCheck rfl) rfl rfl ?_
      refine Rn rfl rfl rfl (U_store1 rfl rfl rfl rfl) rfl ?_
      refine Re rfl ?_
      refine thenQ_n ?_
      refine W_ret rfl ?_
      refine thenQ_r ?_
      rw [hp]
      try rw [List.append_nil]
      try rw [← hi0_1]
      exact retTo (T' := []) (mapN [0, 1, 2, 3, 5]) trivial ⟨rD (mapD (fun _ => rfl) _) rfl rfl, r_ rfl rfl rfl, rO (mapD (fun _ => rfl) _) rfl rfl, trivial⟩ rfl rfl (fun b h => by match b, h with | 0, _ => rfl | 1, _ => rfl | 2, _ => rfl) rl0 rfl
  · have hc1' := Bool.eq_false_iff.1 hc1
    have hp : pickL s 0 i ms = [] := by simp [pickL, okB, hc1]
    refine W_skip rfl ?_
    refine thenQ_n ?_
    refine W_ret rfl ?_
    refine thenQ_r ?_
    rw [hp]
    try rw [List.append_nil]
    try rw [← hi0_1]
    exact retTo (T' := []) (mapN [0, 1, 2, 3, 2]) trivial ⟨rD (mapD (fun _ => rfl) _) rfl rfl, r_ rfl rfl rfl, rO (mapD (fun _ => rfl) _) rfl rfl, trivial⟩ rfl rfl (fun b h => by match b, h with | 0, _ => rfl | 1, _ => rfl | 2, _ => rfl) rl0 rfl
theorem set_zero {ms : List Int} {j : Nat} (h : j < ms.length) (h0 : ms[j] = 0) : (ms.set j 1).set j 0 = ms := by
  rw [List.set_set]
  apply List.ext_getElem (by simp)
  intro k h1 h2
  rw [List.getElem_set]
  split
  · rename_i e; subst e; exact h0.symm
  · rfl
theorem pick_len (s : Star) : ∀ (m i : Nat) (ms : List Int), i ≤ ms.length → (pickL s m i ms).length ≤ 2 ^ (ms.length - i)
  | 0, i, ms, _ => by
    have := Nat.one_le_two_pow (n := ms.length - i)
    unfold pickL; split <;> simp; omega
  | m + 1, i, ms, hi => by
    have key : ∀ (k i : Nat), i + k ≤ ms.length → ((List.range' i k).flatMap fun j => pickL s m (j + 1) (ms.set j 1)).length + 2 ^ (ms.length - (i + k)) ≤ 2 ^ (ms.length - i) := by
      intro k
      induction k with
      | zero => intro i _; simp
      | succ k ih =>
        intro i h
        have h1 := pick_len s m (i + 1) (ms.set i 1) (by simp; omega)
        have h2 := ih (i + 1) (by omega)
        rw [List.range'_succ, List.flatMap_cons, List.length_append]
        simp only [List.length_set] at h1
        have h3 : 2 ^ (ms.length - i) = 2 ^ (ms.length - (i + 1)) + 2 ^ (ms.length - (i + 1)) := by
          rw [show ms.length - i = (ms.length - (i + 1)) + 1 by omega, Nat.pow_succ]; omega
        rw [show i + 1 + k = i + (k + 1) by omega] at h2
        omega
    have := key (ms.length - i - m) i (by omega)
    unfold pickL; exact Nat.le_trans (Nat.le_add_right _ _) this
theorem pickS_p (s : Star) (c : Option Nat) (hg : Good s) (hl : s.es.length ≤ 12) (n : Nat) (hn : n = s.es.length) (m : Nat) (ih : ∀ (i : Nat) (_ : i ≤ n) (ms : List Int) (_ : ms.length = n) (_ : ∀ j (h : j < ms.length), i ≤ j → ms[j] = 0) (ll : List (List Int)) (_ : ll.length + 2 ^ (n - i) ≤ 1000000), MutP Try.prog 110 [cardA s c, i64 (m : Nat), i64 (i : Nat), .slice 0 0 n n, .ptr 1 0] [(0, some (.cells (ms.map i64) 3)), (1, some (.cells [.out 2 ((ll).length) 1] 119)), (2, outB (ll.map listA) 56 ll.length)] 3 (.tup []) [(0, some (.cells (ms.map i64) 3)), (1, some (.cells [.out 4 ((ll ++ pickL s m i ms).length) 1] 119)), (4, outB ((ll ++ pickL s m i ms).map listA) 56 ((ll ++ pickL s m i ms).length))] 5) (hmn : m ≤ 100) (i : Nat) (hi : i ≤ n) (ms : List Int) (hm : ms.length = n) (hz : ∀ j (h : j < ms.length), i ≤ j → ms[j] = 0) (ll : List (List Int)) (hll : ll.length + 2 ^ (n - i) ≤ 1000000) : MutP Try.prog 110 [cardA s c, i64 ((m + 1 : Nat) : Int), i64 (i : Nat), .slice 0 0 n n, .ptr 1 0] [(0, some (.cells (ms.map i64) 3)), (1, some (.cells [.out 2 ((ll).length) 1] 119)), (2, outB (ll.map listA) 56 ll.length)] 3 (.tup []) [(0, some (.cells (ms.map i64) 3)), (1, some (.cells [.out 4 ((ll ++ pickL s (m + 1) i ms).length) 1] 119)), (4, outB ((ll ++ pickL s (m + 1) i ms).map listA) 56 ((ll ++ pickL s (m + 1) i ms).length))] 5 := by
  refine mut_of_body Try.func110 (c := body Try.f110) rfl (by decide) (by simp [Try.ntmps110]) fun w0 Φ0 ρ0 => ?_
  refine W_seq rfl ?_
  refine W_reg rfl ?_
  refine Ra rfl rfl rfl (U_box rfl rfl) rfl rfl rfl ?_
  refine Re rfl ?_
  refine thenQ_n ?_
  refine W_seq rfl ?_
  refine W_seq rfl ?_
  refine W_reg rfl ?_
  refine Rv rfl rfl rfl (U_move rfl) rfl rfl ?_
  refine Rv rfl rfl rfl (U_eql rfl rfl) rfl rfl ?_
  refine Re rfl ?_
  refine thenQ_n ?_
  refine WcondP rfl rfl (fun hc0 => absurd hc0 (by omega)) (fun hc0 => ?_)
  refine W_skip rfl ?_
  refine thenQ_n ?_
  refine W_seq rfl ?_
  refine W_reg rfl ?_
  refine Rv rfl rfl rfl (U_move rfl) rfl rfl ?_
  refine Rv rfl rfl rfl (U_assign rfl) rfl rfl ?_
  refine Re rfl ?_
  refine thenQ_n ?_
  refine W_block rfl ?_
  refine LoopTo (T' := [(0, .rop [i64 s.lo, i64 s.hi, .ros (s.es.flatMap entC) s.es.length c] 0), (1, i64 ((m + 1 : Nat) : Int)), (4, .ptr 1 0), (8, .ptr 3 0), (13, i64 ((i : Nat) : Int))]) (H' := [(0, some (.cells (ms.map i64) 3)), (1, some (.cells [.out 4 ll.length 1] 119)), (3, some (.cells [.slice 0 0 n n] 56)), (4, outB (ll.map listA) 56 ll.length)]) (n := 5) rfl (fun mz_ qz_ => ∃ (j : Nat) (l2 : List (List Int)), i ≤ j ∧ j ≤ n ∧ (l2 = ll ++ (List.range' i (j - i)).flatMap fun j => pickL s m (j + 1) (ms.set j 1)) ∧ l2.length + 2 ^ (n - j) ≤ 1000000 ∧ (j + m ≤ n ∨ j = i) ∧ mz_ = n + 1 - j ∧ qz_ = ⟨[(0, .rop [i64 s.lo, i64 s.hi, .ros (s.es.flatMap entC) s.es.length c] 0), (1, i64 ((m + 1 : Nat) : Int)), (4, .ptr 1 0), (8, .ptr 3 0), (13, i64 ((j : Nat) : Int))], [(0, some (.cells (ms.map i64) 3)), (1, some (.cells [.out 4 l2.length 1] 119)), (3, some (.cells [.slice 0 0 n n] 56)), (4, outB (l2.map listA) 56 l2.length)], 5, []⟩) ⟨i, ll, (Nat.le_refl _), hi, (by simp), hll, (.inr rfl), rfl, rfl⟩ (mapN [0, 1, 2, 3, 2]) ⟨eD rfl rfl, eD rfl rfl, e_ rfl rfl, e_ rfl rfl, eD rfl rfl, trivial⟩ ⟨rD (mapD (fun _ => rfl) _) rfl rfl, r_ rfl rfl rfl, r_ rfl rfl rfl, rO (mapD (fun _ => rfl) _) rfl rfl, trivial⟩ rfl rfl rfl rfl (fun b h => by match b, h with | 0, _ => rfl | 1, _ => rfl | 2, _ => rfl) ?_
  rintro _ _ ⟨j, l2, hi1_0, hi1_1, hi1_2, hi1_3, hi1_4, rfl, rfl⟩
  refine W_seq rfl ?_
  refine W_seq rfl ?_
  refine W_reg rfl ?_
  refine Rv rfl rfl rfl (U_move rfl) rfl rfl ?_
  refine Rv rfl rfl rfl (U_move rfl) rfl rfl ?_
  refine Rv rfl rfl rfl (U_add rfl rfl (w64e (m := ((j + m + 1 : Nat) : Int)) (by omega) (by omega) (by omega))) rfl rfl ?_
  refine Rv rfl rfl rfl (U_load1 rfl rfl rfl) rfl rfl ?_
  refine Rv rfl rfl rfl (U_lenOf rfl len_slice) rfl rfl ?_
  refine Rv rfl rfl rfl (U_leq rfl rfl) rfl rfl ?_
  refine Re rfl ?_
  refine thenQ_n ?_
  refine WcondP rfl rfl (fun hc4 => ?_) (fun hc4 => ?_)
  · have hjn : j < n := by omega
    have hsl : (ms.set j 1).length = ms.length := List.length_set
    have hpl := pick_len s m (j + 1) (ms.set j 1) (by omega)
    rw [hsl, hm] at hpl
    have hp2 : 2 ^ (n - j) = 2 ^ (n - (j + 1)) + 2 ^ (n - (j + 1)) := by rw [show n - j = (n - (j + 1)) + 1 by omega, Nat.pow_succ]; omega
    refine W_skip rfl ?_
    refine thenQ_n ?_
    refine W_seq rfl ?_
    refine W_block rfl ?_
    refine W_seq rfl ?_
    refine W_reg rfl ?_
    refine Rv rfl rfl rfl (U_load1 rfl rfl rfl) rfl rfl ?_
    refine Rv rfl rfl rfl (U_move rfl) rfl rfl ?_
    have hx1 : j < ms.length := by omega
    refine Rv rfl rfl rfl (U_indexS (j := j) rfl rfl rfl (by omega)) rfl rfl ?_
    refine Rn rfl rfl rfl (U_store (n := 1) (cs' := (ms.set j 1).map i64) rfl rfl rfl rfl rfl (by simp; omega) rfl setM) rfl ?_
    refine Re rfl ?_
    refine thenQ_n ?_
    refine W_seq rfl ?_
    refine W_reg rfl ?_
    refine Rv rfl rfl rfl (U_move rfl) rfl rfl ?_
    refine Rv rfl rfl rfl (U_move rfl) rfl rfl ?_
    refine Rv rfl rfl rfl (U_sub rfl rfl (w64e (m := ((m : Nat) : Int)) (by omega) (by omega) (by omega))) rfl rfl ?_
    refine Rv rfl rfl rfl (U_move rfl) rfl rfl ?_
    refine Rv rfl rfl rfl (U_add rfl rfl (w64e (m := ((j + 1 : Nat) : Int)) (by omega) (by omega) (by omega))) rfl rfl ?_
    refine Rv rfl rfl rfl (U_load1 rfl rfl rfl) rfl rfl ?_
    refine Rv rfl rfl rfl (U_move rfl) rfl rfl ?_
    refine Ra rfl rfl rfl (U_callT (mapN [0, 1, 4]) rfl rfl (ih (j + 1) (by omega) (ms.set j 1) (by omega) (fun q hq hq2 => by rw [List.getElem_set]; split; omega; exact hz q (by omega) (by omega)) l2 (by omega)) rfl rfl ⟨rD (mapD (fun _ => rfl) _) rfl rfl, r_ rfl rfl rfl, rO (mapD (fun _ => rfl) _) rfl rfl, trivial⟩ rfl rfl) rfl rfl rfl ?_
    refine Rto (T' := [(0, .rop [i64 s.lo, i64 s.hi, .ros (s.es.flatMap entC) s.es.length c] 0), (1, i64 ((m + 1 : Nat) : Int)), (4, .ptr 1 0), (8, .ptr 3 0), (13, i64 ((j : Nat) : Int))]) (H' := [(0, some (.cells ((ms.set j 1).map i64) 3)), (1, some (.cells [.out 6 ((l2 ++ pickL s m (j + 1) (ms.set j 1)).length) 1] 119)), (3, some (.cells [.slice 0 0 n n] 56)), (6, outB ((l2 ++ pickL s m (j + 1) (ms.set j 1)).map listA) 56 ((l2 ++ pickL s m (j + 1) (ms.set j 1)).length))]) (n := 7) id ⟨eD rfl rfl, eD rfl rfl, e_ rfl rfl, e_ rfl rfl, eD rfl rfl, trivial⟩ ⟨rMD (mapD (fun _ => rfl) _) rfl rfl, r_ rfl rfl rfl, r_ rfl rfl rfl, rM (mapD (fun _ => rfl) _) rfl rfl, trivial⟩ rfl rfl rfl rfl (fun _ _ => rfl) ?_
    refine Re rfl ?_
    refine thenQ_n ?_
    refine W_reg rfl ?_
    refine Rv rfl rfl rfl (U_load1 rfl rfl rfl) rfl rfl ?_
    refine Rv rfl rfl rfl (U_move rfl) rfl rfl ?_
    have hx2 : j < (ms.set j 1).length := by omega
    refine Rv rfl rfl rfl (U_indexS (j := j) rfl rfl rfl (by omega)) rfl rfl ?_
    refine Rn rfl rfl rfl (U_store (n := 1) (cs' := ((ms.set j 1).set j 0).map i64) rfl rfl rfl rfl rfl (by simp; omega) rfl setM) rfl ?_
    refine Re rfl ?_
    refine blkQ_n ?_
    refine thenQ_n ?_
    refine W_reg rfl ?_
    refine Rv rfl rfl rfl (U_move rfl) rfl rfl ?_
    refine Rv rfl rfl rfl (U_add rfl rfl (w64e (m := ((j + 1 : Nat) : Int)) (by omega) (by omega) (by omega))) rfl rfl ?_
    refine Rv rfl rfl rfl (U_assign rfl) rfl rfl ?_
    refine Re rfl ?_
    refine thenQ_n ?_
    have hms := set_zero (show j < ms.length by omega) (hz j (by omega) hi1_0)
    rw [hms]
    exact againTo (T' := [(0, .rop [i64 s.lo, i64 s.hi, .ros (s.es.flatMap entC) s.es.length c] 0), (1, i64 ((m + 1 : Nat) : Int)), (4, .ptr 1 0), (8, .ptr 3 0), (13, i64 (((j + 1) : Nat) : Int))]) (H' := [(0, some (.cells (ms.map i64) 3)), (1, some (.cells [.out 4 (l2 ++ pickL s m (j + 1) (ms.set j 1)).length 1] 119)), (3, some (.cells [.slice 0 0 n n] 56)), (4, outB ((l2 ++ pickL s m (j + 1) (ms.set j 1)).map listA) 56 (l2 ++ pickL s m (j + 1) (ms.set j 1)).length)]) (n := 5) (n + 1 - (j + 1)) ⟨j + 1, l2 ++ pickL s m (j + 1) (ms.set j 1), (by omega), (by omega), (by rw [show j + 1 - i = (j - i) + 1 by omega, List.range'_1_concat, List.flatMap_append, hi1_2]; simp [show i + (j - i) = j by omega]), (by rw [List.length_append]; omega), (.inl (by omega)), rfl, rfl⟩ (by omega) (mapN [0, 1, 2, 3, 6]) ⟨eD rfl rfl, eD rfl rfl, e_ rfl rfl, e_ rfl rfl, eD rfl rfl, trivial⟩ ⟨rD (mapD (fun _ => rfl) _) rfl rfl, r_ rfl rfl rfl, r_ rfl rfl rfl, rO (mapD (fun _ => rfl) _) rfl rfl, trivial⟩ rfl rfl rfl rfl (fun b h => by match b, h with | 0, _ => rfl | 1, _ => rfl | 2, _ => rfl)
  · refine W_exit rfl ?_
    refine thenQ_x ?_
    refine thenQ_x ?_
    refine blkQ_x rfl ?_
    rw [show ll ++ pickL s (m + 1) i ms = l2 by rw [hi1_2, pickL, show ms.length - i - m = j - i by omega]]
    exact retTon (T' := []) id trivial ⟨rD (mapD (fun _ => rfl) _) rfl rfl, r_ rfl rfl rfl, rO (mapD (fun _ => rfl) _) rfl rfl, trivial⟩ rfl rfl (fun _ _ => rfl) rl0 rfl
theorem pick_p (s : Star) (c : Option Nat) (hg : Good s) (hl : s.es.length ≤ 12) (n : Nat) (hn : n = s.es.length) : ∀ (m : Nat) (_ : m ≤ 100) (i : Nat) (_ : i ≤ n) (ms : List Int) (_ : ms.length = n) (_ : ∀ j (h : j < ms.length), i ≤ j → ms[j] = 0) (ll : List (List Int)) (_ : ll.length + 2 ^ (n - i) ≤ 1000000), MutP Try.prog 110 [cardA s c, i64 (m : Nat), i64 (i : Nat), .slice 0 0 n n, .ptr 1 0] [(0, some (.cells (ms.map i64) 3)), (1, some (.cells [.out 2 ((ll).length) 1] 119)), (2, outB (ll.map listA) 56 ll.length)] 3 (.tup []) [(0, some (.cells (ms.map i64) 3)), (1, some (.cells [.out 4 ((ll ++ pickL s m i ms).length) 1] 119)), (4, outB ((ll ++ pickL s m i ms).map listA) 56 ((ll ++ pickL s m i ms).length))] 5
  | 0, _, i, hi, ms, hm, _, ll, hll => pick0_p s c hg hl n hn i hi ms hm ll (by have := Nat.one_le_two_pow (n := n - i); omega)
  | m + 1, h, i, hi, ms, hm, hz, ll, hll => pickS_p s c hg hl n hn m (pick_p s c hg hl n hn m (by omega)) (by omega) i hi ms hm hz ll hll
def listsL (s : Star) : Nat → Nat → List (List Int)
  | 0, _ => [[]]
  | k + 1, m => if pickL s m 0 (List.replicate s.es.length 0) = [] then listsL s k (m + 1) else pickL s m 0 (List.replicate s.es.length 0)
/-- All best lists. -/
def listsQ (s : Star) : List (List Int) := listsL s (s.es.length + 1) 0
theorem lists_p (s : Star) (c : Option Nat) (hg : Good s) (hl : s.es.length ≤ 12) : Pure Try.prog 91 [cardA s c] (listsA (listsQ s) none) := by
  refine pure_of_body Try.func91 (c := body Try.f91) rfl (by simp [Try.ntmps91]) fun w0 Φ0 => ?_
  refine W_seq rfl ?_
  refine W_reg rfl ?_
  refine Rv rfl rfl rfl (U_assign rfl) rfl rfl ?_
  refine Re rfl ?_
  refine thenQ_n ?_
  refine W_seq rfl ?_
  refine W_reg rfl ?_
  refine Ra rfl rfl rfl (U_alloc) rfl rfl rfl ?_
  refine Re rfl ?_
  refine thenQ_n ?_
  refine W_seq rfl ?_
  refine W_reg rfl ?_
  refine Rv rfl rfl rfl (U_move rfl) rfl rfl ?_
  refine Rv rfl rfl rfl (U_nilCheckR rfl) rfl rfl ?_
  refine Rv rfl rfl rfl (U_fieldAddrR rfl) rfl rfl ?_
  refine Rv rfl rfl rfl (U_fieldAddrR rfl) rfl rfl ?_
  refine Rv rfl rfl rfl (U_load1 rfl rfl rfl) rfl rfl ?_
  refine Rv rfl rfl rfl (U_lenOf rfl len_ros) rfl rfl ?_
  refine Ra rfl rfl rfl (U_mkL (n := s.es.length) (cs' := (List.replicate s.es.length (0 : Int)).map i64) rfl rfl rfl (by omega) (replM rfl _)) rfl rfl rfl ?_
  refine Rv rfl rfl rfl (U_assign rfl) rfl rfl ?_
  refine Re rfl ?_
  refine thenQ_n ?_
  refine W_seq rfl ?_
  refine W_seq rfl ?_
  refine W_reg rfl ?_
  refine Rv rfl rfl rfl (U_move rfl) rfl rfl ?_
  refine Rv rfl rfl rfl (U_nilCheckR rfl) rfl rfl ?_
  refine Rv rfl rfl rfl (U_fieldAddrR rfl) rfl rfl ?_
  refine Rv rfl rfl rfl (U_fieldAddrR rfl) rfl rfl ?_
  refine Rv rfl rfl rfl (U_load1 rfl rfl rfl) rfl rfl ?_
  refine Rv rfl rfl rfl (U_lenOf rfl len_ros) rfl rfl ?_
  refine Rv rfl rfl rfl (U_add rfl rfl (w64e (m := ((s.es.length + 1 : Nat) : Int)) (by omega) (by omega) (by omega))) rfl rfl ?_
  refine Rv rfl rfl rfl (U_move rfl) rfl rfl ?_
  refine Re rfl ?_
  refine thenQ_n ?_
  refine W_block rfl ?_
  refine WweakH (b := 0) (cs' := [.out 2 0 1]) rfl (leL_cons le_nils_out (leL_refl _)) ?_
  refine LoopTo (T' := [(0, .rop [i64 s.lo, i64 s.hi, .ros (s.es.flatMap entC) s.es.length c] 0), (3, .ptr 0 0), (4, .slice 1 0 s.es.length s.es.length), (19, i64 ((s.es.length + 1 : Nat) : Int)), (20, i64 ((0 : Nat) : Int))]) (H' := [(0, some (.cells [.out 2 (([] : List (List Int)).length) 1] 119)), (1, some (.cells ((List.replicate s.es.length (0 : Int)).map i64) 3)), (2, outB (([] : List (List Int)).map listA) 56 (([] : List (List Int)).length))]) (n := 3) rfl (fun mz_ qz_ => ∃ (k : Nat) (ms : List Int), k ≤ s.es.length + 1 ∧ ms.length = s.es.length ∧ listsQ s = listsL s (s.es.length + 1 - k) k ∧ mz_ = s.es.length + 1 - k ∧ qz_ = ⟨[(0, .rop [i64 s.lo, i64 s.hi, .ros (s.es.flatMap entC) s.es.length c] 0), (3, .ptr 0 0), (4, .slice 1 0 s.es.length s.es.length), (19, i64 ((s.es.length + 1 : Nat) : Int)), (20, i64 ((k : Nat) : Int))], [(0, some (.cells [.out 2 (([] : List (List Int)).length) 1] 119)), (1, some (.cells (ms.map i64) 3)), (2, outB (([] : List (List Int)).map listA) 56 (([] : List (List Int)).length))], 3, []⟩) ⟨0, List.replicate s.es.length (0 : Int), (by omega), (by simp), rfl, rfl, rfl⟩ id ⟨eD rfl rfl, e_ rfl rfl, e_ rfl rfl, eD rfl rfl, eD rfl rfl, trivial⟩ ⟨r_ rfl rfl rfl, rD (mapD (fun _ => rfl) _) rfl rfl, rO0 rfl, trivial⟩ rfl rfl rfl rfl (fun _ _ => rfl) ?_
  rintro _ _ ⟨k, ms, hi0_0, hi0_1, hi0_2, rfl, rfl⟩
  refine W_seq rfl ?_
  refine W_reg rfl ?_
  refine Rv rfl rfl rfl (U_lss rfl rfl) rfl rfl ?_
  refine Re rfl ?_
  refine thenQ_n ?_
  refine W_seq rfl ?_
  refine WcondP rfl rfl (fun hc0 => ?_) (fun hc0 => ?_)
  · refine W_skip rfl ?_
    refine thenQ_n ?_
    refine W_seq rfl ?_
    refine W_block rfl ?_
    refine W_seq rfl ?_
    refine W_reg rfl ?_
    refine Rv rfl rfl rfl (U_move rfl) rfl rfl ?_
    refine Rv rfl rfl rfl (U_assign rfl) rfl rfl ?_
    refine Re rfl ?_
    refine thenQ_n ?_
    refine W_seq rfl ?_
    refine W_reg rfl ?_
    refine Rv rfl rfl rfl (U_move rfl) rfl rfl ?_
    refine Rn rfl rfl rfl (U_clear (cs' := (List.replicate s.es.length (0 : Int)).map i64) rfl rfl rfl (by simp; omega) rfl (clearM rfl (by first | simp; done | omega))) rfl ?_
    refine Re rfl ?_
    refine thenQ_n ?_
    refine W_seq rfl ?_
    refine W_reg rfl ?_
    refine Rv rfl rfl rfl (U_move rfl) rfl rfl ?_
    refine Rv rfl rfl rfl (U_move rfl) rfl rfl ?_
    refine Rv rfl rfl rfl (U_move rfl) rfl rfl ?_
    refine Ra rfl rfl rfl (U_callT (mapN [1, 0, 2]) rfl rfl (pick_p s c hg hl s.es.length rfl k (by omega) 0 (by omega) (List.replicate s.es.length (0 : Int)) (by simp) (fun q hq _ => by simp) ([] : List (List Int)) (by simp; have := Nat.pow_le_pow_right (show 0 < 2 by omega) hl; omega)) rfl rfl ⟨rD (mapD (fun _ => rfl) _) rfl rfl, r_ rfl rfl rfl, rO (mapD (fun _ => rfl) _) rfl rfl, trivial⟩ rfl rfl) rfl rfl rfl ?_
    refine Rto (T' := [(0, .rop [i64 s.lo, i64 s.hi, .ros (s.es.flatMap entC) s.es.length c] 0), (3, .ptr 0 0), (4, .slice 1 0 s.es.length s.es.length), (19, i64 ((s.es.length + 1 : Nat) : Int)), (20, i64 ((k : Nat) : Int))]) (H' := [(0, some (.cells [.out 4 ((([] : List (List Int)) ++ pickL s k 0 (List.replicate s.es.length (0 : Int))).length) 1] 119)), (1, some (.cells ((List.replicate s.es.length (0 : Int)).map i64) 3)), (4, outB ((([] : List (List Int)) ++ pickL s k 0 (List.replicate s.es.length (0 : Int))).map listA) 56 ((([] : List (List Int)) ++ pickL s k 0 (List.replicate s.es.length (0 : Int))).length))]) (n := 5) id ⟨eD rfl rfl, e_ rfl rfl, e_ rfl rfl, eD rfl rfl, eD rfl rfl, trivial⟩ ⟨r_ rfl rfl rfl, rMD (mapD (fun _ => rfl) _) rfl rfl, rM (mapD (fun _ => rfl) _) rfl rfl, trivial⟩ rfl rfl rfl rfl (fun _ _ => rfl) ?_
    refine Re rfl ?_
    refine thenQ_n ?_
    refine W_seq rfl ?_
    refine W_reg rfl ?_
    refine Rv rfl rfl rfl (U_load1 rfl rfl rfl) rfl rfl ?_
    refine Rv rfl rfl rfl (U_lenOf rfl len_out) rfl rfl ?_
    refine Rv rfl rfl rfl (U_gtr rfl rfl) rfl rfl ?_
    refine Re rfl ?_
    refine thenQ_n ?_
    refine WcondP rfl rfl (fun hc1 => ?_) (fun hc1 => ?_)
    · refine W_seq rfl ?_
      refine W_reg rfl ?_
      refine Rv rfl rfl rfl (U_load1 rfl rfl rfl) rfl rfl ?_
      refine Rv rfl rfl rfl (U_assign rfl) rfl rfl ?_
      refine Re rfl ?_
      refine thenQ_n ?_
      refine WfrO 4 ((([] : List (List Int)) ++ pickL s k 0 (List.replicate s.es.length (0 : Int))).map listA) rfl (mapD (fun _ => rfl) _) (T' := [(2, .ros ((([] : List (List Int)) ++ pickL s k 0 (List.replicate s.es.length (0 : Int))).map listA) ((([] : List (List Int)) ++ pickL s k 0 (List.replicate s.es.length (0 : Int))).length) none)]) (H' := []) ⟨fO rfl, trivial⟩ trivial ?_
      refine W_ret rfl ?_
      refine blkQ_r ?_
      refine thenQ_r ?_
      refine thenQ_r ?_
      refine blkQ_r ?_
      refine thenQ_r ?_
      exact retL (rlT rfl rl0) (by first | rfl | (simp only [packA]; rw [hi0_2, show s.es.length + 1 - k = (s.es.length - k) + 1 by omega, listsL, if_neg (by intro e; simp [e] at hc1)]; simp only [List.nil_append]; first | done | rfl) | (simp only [packA]; rw [hi0_2, show s.es.length + 1 - k = 0 by omega, listsL]; first | done | rfl)) rfl
    · refine W_skip rfl ?_
      refine blkQ_n ?_
      refine thenQ_n ?_
      refine W_reg rfl ?_
      refine Rv rfl rfl rfl (U_add rfl rfl (w64e (m := ((k + 1 : Nat) : Int)) (by omega) (by omega) (by omega))) rfl rfl ?_
      refine Rv rfl rfl rfl (U_move rfl) rfl rfl ?_
      refine Re rfl ?_
      refine thenQ_n ?_
      have he : [] ++ pickL s k 0 (List.replicate s.es.length 0) = [] := by simp at hc1; simpa using hc1
      rw [he]
      exact againTo (T' := [(0, .rop [i64 s.lo, i64 s.hi, .ros (s.es.flatMap entC) s.es.length c] 0), (3, .ptr 0 0), (4, .slice 1 0 s.es.length s.es.length), (19, i64 ((s.es.length + 1 : Nat) : Int)), (20, i64 (((k + 1) : Nat) : Int))]) (H' := [(0, some (.cells [.out 2 (([] : List (List Int)).length) 1] 119)), (1, some (.cells ((List.replicate s.es.length (0 : Int)).map i64) 3)), (2, outB (([] : List (List Int)).map listA) 56 (([] : List (List Int)).length))]) (n := 3) (s.es.length + 1 - (k + 1)) ⟨k + 1, List.replicate s.es.length (0 : Int), (by omega), (by simp), (by rw [hi0_2, show s.es.length + 1 - k = (s.es.length - k) + 1 by omega, listsL, if_pos (by simpa using he)]; congr 1; omega), rfl, rfl⟩ (by omega) (mapN [0, 1, 4]) ⟨eD rfl rfl, e_ rfl rfl, e_ rfl rfl, eD rfl rfl, eD rfl rfl, trivial⟩ ⟨r_ rfl rfl rfl, rD (mapD (fun _ => rfl) _) rfl rfl, rO (mapD (fun _ => rfl) _) rfl rfl, trivial⟩ rfl rfl rfl rfl (fun _ h => absurd h (Nat.not_lt_zero _))
  · refine W_exit rfl ?_
    refine thenQ_x ?_
    refine thenQ_x ?_
    refine blkQ_x rfl ?_
    refine thenQ_n ?_
    refine W_seq rfl ?_
    refine W_reg rfl ?_
    refine Rv rfl rfl rfl (U_buildSliceF (by rfl) (by decide) rfl rfl rfl) rfl rfl ?_
    refine Rv rfl rfl rfl (U_assign rfl) rfl rfl ?_
    refine Re rfl ?_
    refine thenQ_n ?_
    refine WweakT (j := 2) rfl (le_ros (l' := [listA []]) (leL_cons le_nils (leL_refl _)) rfl) ?_
    refine WweakT (j := 2) rfl le_cap ?_
    refine W_ret rfl ?_
    exact retL (rlT rfl rl0) (by first | rfl | (simp only [packA]; rw [hi0_2, show s.es.length + 1 - k = (s.es.length - k) + 1 by omega, listsL, if_neg (by intro e; simp [e] at hc1)]; simp only [List.nil_append]; first | done | rfl) | (simp only [packA]; rw [hi0_2, show s.es.length + 1 - k = 0 by omega, listsL]; first | done | rfl)) rfl
end Go.Proofs.Ytapappdgdiaijaa
end

section
/- Contracts of package drift: Fewest, Left, Kind. -/
namespace Go.Proofs.Ytapappdgdiaijaa
set_option maxRecDepth 20000
open Go.AE
theorem good_12 {s : Star} (h : chkS s = 0) : s.es.length ≤ 12 := by
  unfold chkS at h
  by_cases h1 : inL 1 12 [(s.es.length : Int)] = true
  · simp [inL] at h1; omega
  · rw [if_pos (by simpa using h1)] at h; omega
theorem listsL_pos (s : Star) : ∀ k m, 0 < (listsL s k m).length
  | 0, _ => by simp [listsL]
  | k + 1, m => by
    unfold listsL
    split
    · exact listsL_pos s k (m + 1)
    · rename_i h; exact List.length_pos_iff.2 h
theorem listsQ_pos (s : Star) : 0 < (listsQ s).length := listsL_pos s _ _
theorem listsL_len (s : Star) (hl : s.es.length ≤ 12) : ∀ k m, (listsL s k m).length ≤ 5000
  | 0, _ => by simp [listsL]
  | k + 1, m => by
    unfold listsL
    split
    · exact listsL_len s hl k (m + 1)
    · have := pick_len s m 0 (List.replicate s.es.length 0) (Nat.zero_le _)
      have h2 := Nat.pow_le_pow_right (show 0 < 2 by omega) hl
      simp only [List.length_replicate, Nat.sub_zero] at this
      omega
/-- A best list, and how many entries it has. -/
def leftQ (s : Star) : List Int := (listsQ s).getD 0 []
def fewQ (s : Star) : Nat := (leftQ s).length
theorem left0 {s : Star} (h : 0 < (listsQ s).length) : (listsQ s)[0] = leftQ s := by simp [leftQ, h]
/-- In how many of some lists an entry is. -/
def inC (e : Int) (l : List (List Int)) : Nat := l.countP fun x => x.any fun y => decide (e = y)
def kndS (s : Star) (e : Int) : Int := if chkS s = 0 then (if inL 0 ((s.es.length : Int) - 1) [e] = true then 0 else 2) else chkS s
def kindQ (s : Star) (e : Int) : Int := if (listsQ s).length - inC e (listsQ s) = 0 then 2 else if 0 < inC e (listsQ s) then 1 else 0
theorem inC_le (e : Int) (l : List (List Int)) : inC e l ≤ l.length := List.countP_le_length
theorem fewest_p (s : Star) (c : Option Nat) (hl : s.es.length ≤ 1000) : Pure Try.prog 38 [starA s c] (.tup [i64 (if chkS s = 0 then (fewQ s : Int) else 0), i64 (chkS s)]) := by
  refine pure_of_body Try.func38 (c := body Try.f38) rfl (by simp [Try.ntmps38]) fun w0 Φ0 => ?_
  refine W_seq rfl ?_
  refine W_reg rfl ?_
  refine Rv rfl rfl rfl (U_boxF rfl rfl rfl) rfl rfl ?_
  refine Rv rfl rfl rfl (U_assign rfl) rfl rfl ?_
  refine Rv rfl rfl rfl (U_assign rfl) rfl rfl ?_
  refine Re rfl ?_
  refine thenQ_n ?_
  refine W_seq rfl ?_
  refine W_reg rfl ?_
  refine Rv rfl rfl rfl (U_load3 rfl rfl rfl rfl rfl) rfl rfl ?_
  refine Rv rfl rfl rfl (U_call rfl rfl (open_p s c (by omega)) rfl) rfl rfl ?_
  refine Rv rfl rfl rfl (U_move rfl) rfl rfl ?_
  refine Rv rfl rfl rfl (U_extract rfl rfl) rfl rfl ?_
  refine Rv rfl rfl rfl (U_extract rfl rfl) rfl rfl ?_
  refine Rv rfl rfl rfl (U_assign rfl) rfl rfl ?_
  refine Rv rfl rfl rfl (U_assign rfl) rfl rfl ?_
  refine Re rfl ?_
  refine thenQ_n ?_
  refine W_seq rfl ?_
  refine W_seq rfl ?_
  refine W_reg rfl ?_
  refine Rv rfl rfl rfl (U_move rfl) rfl rfl ?_
  refine Rv rfl rfl rfl (U_neq rfl rfl) rfl rfl ?_
  refine Re rfl ?_
  refine thenQ_n ?_
  refine WcondP rfl rfl (fun h0 => ?_) (fun h0 => ?_)
  · simp only [if_neg h0]
    refine W_seq rfl ?_
    refine W_reg rfl ?_
    refine Rv rfl rfl rfl (U_move rfl) rfl rfl ?_
    refine Rv rfl rfl rfl (U_assign rfl) rfl rfl ?_
    refine Rv rfl rfl rfl (U_assign rfl) rfl rfl ?_
    refine Re rfl ?_
    refine thenQ_n ?_
    refine W_ret rfl ?_
    refine thenQ_r ?_
    exact retL (rlT rfl (rlT rfl rl0)) (by first | rfl | (simp only [packA]; simp only [if_neg h0]; first | done | rfl) | (simp only [packA]; simp only [h0, if_true, left0 hp, fewQ]; first | done | rfl)) rfl
  · rw [Decidable.not_not] at h0
    simp only [if_pos h0]
    have hg := good_of h0
    have h12 := good_12 h0
    have hp := listsQ_pos s
    refine W_skip rfl ?_
    refine thenQ_n ?_
    refine W_seq rfl ?_
    refine W_reg rfl ?_
    refine Rv rfl rfl rfl (U_move rfl) rfl rfl ?_
    refine Rv rfl rfl rfl (U_call rfl rfl (lists_p s c (by assumption) (by assumption)) rfl) rfl rfl ?_
    have hx1 : 0 < (listsQ s).length := hp
    refine Rv rfl rfl rfl (U_indexR (j := 0) rfl rfl rfl hx1) rfl rfl ?_
    refine Rv rfl rfl rfl (U_load1 rfl rfl (getM hx1)) rfl rfl ?_
    refine Rv rfl rfl rfl (U_lenOf rfl len_ros) rfl rfl ?_
    refine Rv rfl rfl rfl (U_assign rfl) rfl rfl ?_
    refine Rv rfl rfl rfl (U_assign rfl) rfl rfl ?_
    refine Re rfl ?_
    refine thenQ_n ?_
    refine W_ret rfl ?_
    exact retL (rlT rfl (rlT rfl rl0)) (by first | rfl | (simp only [packA]; simp only [if_neg h0]; first | done | rfl) | (simp only [packA]; simp only [h0, if_true, left0 hp, fewQ]; first | done | rfl)) rfl
theorem ll_len {s : Star} (x : List Int) (m i : Nat) (ms : List Int) (h : x ∈ pickL s m i ms) : x.length ≤ ms.length := by
  induction m generalizing i ms with
  | zero =>
    unfold pickL at h
    split at h
    · simp at h; subst h; exact picked_len _ _
    · simp at h
  | succ m ih =>
    unfold pickL at h
    obtain ⟨j, _, hj⟩ := List.mem_flatMap.1 h
    simpa using ih (j + 1) (ms.set j 1) hj
theorem listsL_small (s : Star) : ∀ k m x, x ∈ listsL s k m → x.length ≤ s.es.length
  | 0, _, x, h => by simp [listsL] at h; subst h; simp
  | k + 1, m, x, h => by
    unfold listsL at h
    split at h
    · exact listsL_small s k (m + 1) x h
    · simpa using ll_len x _ _ _ h
theorem left_small (s : Star) : (leftQ s).length ≤ s.es.length := by
  rw [← left0 (listsQ_pos s)]; exact listsL_small s _ _ _ (List.getElem_mem _)
theorem leftOf_p (s : Star) (c : Option Nat) (hl : s.es.length ≤ 1000) : Pure Try.prog 40 [starA s c] (.tup [intsA (if chkS s = 0 then leftQ s else []) none, i64 (chkS s)]) := by
  refine pure_of_body Try.func40 (c := body Try.f40) rfl (by simp [Try.ntmps40]) fun w0 Φ0 => ?_
  refine W_seq rfl ?_
  refine W_reg rfl ?_
  refine Rv rfl rfl rfl (U_boxF rfl rfl rfl) rfl rfl ?_
  refine Rv rfl rfl rfl (U_assign rfl) rfl rfl ?_
  refine Rv rfl rfl rfl (U_assign rfl) rfl rfl ?_
  refine Re rfl ?_
  refine thenQ_n ?_
  refine W_seq rfl ?_
  refine W_reg rfl ?_
  refine Rv rfl rfl rfl (U_load3 rfl rfl rfl rfl rfl) rfl rfl ?_
  refine Rv rfl rfl rfl (U_call rfl rfl (open_p s c (by omega)) rfl) rfl rfl ?_
  refine Rv rfl rfl rfl (U_move rfl) rfl rfl ?_
  refine Rv rfl rfl rfl (U_extract rfl rfl) rfl rfl ?_
  refine Rv rfl rfl rfl (U_extract rfl rfl) rfl rfl ?_
  refine Rv rfl rfl rfl (U_assign rfl) rfl rfl ?_
  refine Rv rfl rfl rfl (U_assign rfl) rfl rfl ?_
  refine Re rfl ?_
  refine thenQ_n ?_
  refine W_seq rfl ?_
  refine W_seq rfl ?_
  refine W_reg rfl ?_
  refine Rv rfl rfl rfl (U_move rfl) rfl rfl ?_
  refine Rv rfl rfl rfl (U_neq rfl rfl) rfl rfl ?_
  refine Re rfl ?_
  refine thenQ_n ?_
  refine WcondP rfl rfl (fun h0 => ?_) (fun h0 => ?_)
  · simp only [if_neg h0]
    refine W_seq rfl ?_
    refine W_reg rfl ?_
    refine Rv rfl rfl rfl (U_move rfl) rfl rfl ?_
    refine Rv rfl rfl rfl (U_assign rfl) rfl rfl ?_
    refine Rv rfl rfl rfl (U_assign rfl) rfl rfl ?_
    refine Re rfl ?_
    refine thenQ_n ?_
    refine WweakT (j := 2) rfl (le_nils (cs := [])) ?_
    refine W_ret rfl ?_
    refine thenQ_r ?_
    exact retL (rlT rfl (rlT rfl rl0)) (by first | rfl | (simp only [packA]; simp only [if_neg h0]; first | done | rfl) | (simp only [packA]; simp only [h0, if_true, left0 hp]; first | done | rfl)) rfl
  · rw [Decidable.not_not] at h0
    simp only [if_pos h0]
    have hg := good_of h0
    have h12 := good_12 h0
    have hp := listsQ_pos s
    have hls := left_small s
    rw [← left0 hp] at hls
    refine W_skip rfl ?_
    refine thenQ_n ?_
    refine W_seq rfl ?_
    refine W_reg rfl ?_
    refine Rv rfl rfl rfl (U_move rfl) rfl rfl ?_
    refine Rv rfl rfl rfl (U_call rfl rfl (lists_p s c (by assumption) (by assumption)) rfl) rfl rfl ?_
    have hx1 : 0 < (listsQ s).length := hp
    refine Rv rfl rfl rfl (U_indexR (j := 0) rfl rfl rfl hx1) rfl rfl ?_
    refine Rv rfl rfl rfl (U_load1 rfl rfl (getM hx1)) rfl rfl ?_
    refine Rv rfl rfl rfl (U_assign rfl) rfl rfl ?_
    refine Re rfl ?_
    refine thenQ_n ?_
    refine W_seq rfl ?_
    refine W_reg rfl ?_
    refine Rv rfl rfl rfl (U_move rfl) rfl rfl ?_
    refine Rv rfl rfl rfl (U_lenOf rfl len_ros) rfl rfl ?_
    refine Ra rfl rfl rfl (U_mkL (n := ((listsQ s)[0]).length) (cs' := (List.replicate (((listsQ s)[0]).length) (0 : Int)).map i64) rfl rfl rfl (by omega) (replM rfl _)) rfl rfl rfl ?_
    refine Rv rfl rfl rfl (U_assign rfl) rfl rfl ?_
    refine Re rfl ?_
    refine thenQ_n ?_
    refine W_seq rfl ?_
    refine W_reg rfl ?_
    refine Rv rfl rfl rfl (U_move rfl) rfl rfl ?_
    refine Rv rfl rfl rfl (U_move rfl) rfl rfl ?_
    refine Ra rfl rfl rfl (U_copy (news := ((listsQ s)[0]).map i64) (cs' := ((listsQ s)[0]).map i64) rfl rfl rfl (by simp) (srcR (map_len1 _)) (allM (fun _ => rfl) _) (copyM (by simp))) rfl rfl rfl ?_
    refine Re rfl ?_
    refine thenQ_n ?_
    refine W_seq rfl ?_
    refine W_reg rfl ?_
    refine Rv rfl rfl rfl (U_move rfl) rfl rfl ?_
    refine Rv rfl rfl rfl (U_assign rfl) rfl rfl ?_
    refine Rv rfl rfl rfl (U_assign rfl) rfl rfl ?_
    refine Re rfl ?_
    refine thenQ_n ?_
    refine WfrN 0 rfl (mapD (fun _ => rfl) _) (T' := [(2, .ros (((listsQ s)[0]).map i64) (((listsQ s)[0]).length) (some (((listsQ s)[0]).length))), (3, i64 0)]) (H' := []) ⟨⟨_, rfl, fr_sl (Nat.le_refl _)⟩, ⟨_, rfl, rfl⟩, trivial⟩ trivial ?_
    refine WweakT (j := 2) rfl le_cap ?_
    refine W_ret rfl ?_
    exact retL (rlT rfl (rlT rfl rl0)) (by first | rfl | (simp only [packA]; simp only [if_neg h0]; first | done | rfl) | (simp only [packA]; simp only [h0, if_true, left0 hp]; first | done | rfl)) rfl
theorem inC_succ {e : Int} {l : List (List Int)} {k : Nat} (h : k < l.length) : inC e (l.take (k + 1)) = inC e (l.take k) + if (l[k].any fun y => decide (e = y)) = true then 1 else 0 := by
  rw [take_succ' h]; unfold inC; rw [List.countP_append]; simp [List.countP_cons]
theorem kind_p (s : Star) (c : Option Nat) (hl : s.es.length ≤ 1000) (e : Int) : Pure Try.prog 41 [starA s c, i64 e] (.tup [i64 (if kndS s e = 0 then kindQ s e else 0), i64 (kndS s e)]) := by
  refine pure_of_body Try.func41 (c := body Try.f41) rfl (by simp [Try.ntmps41]) fun w0 Φ0 => ?_
  refine W_seq rfl ?_
  refine W_reg rfl ?_
  refine Rv rfl rfl rfl (U_boxF rfl rfl rfl) rfl rfl ?_
  refine Rv rfl rfl rfl (U_assign rfl) rfl rfl ?_
  refine Rv rfl rfl rfl (U_assign rfl) rfl rfl ?_
  refine Re rfl ?_
  refine thenQ_n ?_
  refine W_seq rfl ?_
  refine W_reg rfl ?_
  refine Rv rfl rfl rfl (U_load3 rfl rfl rfl rfl rfl) rfl rfl ?_
  refine Rv rfl rfl rfl (U_call rfl rfl (open_p s c (by omega)) rfl) rfl rfl ?_
  refine Rv rfl rfl rfl (U_move rfl) rfl rfl ?_
  refine Rv rfl rfl rfl (U_extract rfl rfl) rfl rfl ?_
  refine Rv rfl rfl rfl (U_extract rfl rfl) rfl rfl ?_
  refine Rv rfl rfl rfl (U_assign rfl) rfl rfl ?_
  refine Rv rfl rfl rfl (U_assign rfl) rfl rfl ?_
  refine Re rfl ?_
  refine thenQ_n ?_
  refine W_seq rfl ?_
  refine W_block rfl ?_
  refine W_seq rfl ?_
  refine W_reg rfl ?_
  refine Rv rfl rfl rfl (U_move rfl) rfl rfl ?_
  refine Rv rfl rfl rfl (U_neq rfl rfl) rfl rfl ?_
  refine Rv rfl rfl rfl (U_assign rfl) rfl rfl ?_
  refine Re rfl ?_
  refine thenQ_n ?_
  refine WcondP rfl rfl (fun h0 => ?_) (fun h0 => ?_)
  · simp only [if_neg h0]
    have hkn : kndS s e = chkS s := by rw [kndS, if_neg h0]
    have hkn0 : kndS s e ≠ 0 := by rw [hkn]; exact h0
    refine W_seq rfl ?_
    refine W_reg rfl ?_
    refine Rv rfl rfl rfl (U_move rfl) rfl rfl ?_
    refine Rv rfl rfl rfl (U_assign rfl) rfl rfl ?_
    refine Rv rfl rfl rfl (U_assign rfl) rfl rfl ?_
    refine Re rfl ?_
    refine thenQ_n ?_
    refine W_ret rfl ?_
    refine blkQ_r ?_
    refine thenQ_r ?_
    exact retL (rlT rfl (rlT rfl rl0)) (by first | rfl | (simp only [packA]; rw [if_neg hkn0, hkn]; first | done | rfl) | (simp only [packA]; have hq : kindQ s e = 2 := by { rw [kindQ, ← hi0_1, if_pos (by omega)] }; rw [if_pos hkn, hkn, hq]; first | done | rfl) | (simp only [packA]; have hq : kindQ s e = 1 := by { rw [kindQ, ← hi0_1, if_neg (by omega), if_pos (by omega)] }; rw [if_pos hkn, hkn, hq]; first | done | rfl) | (simp only [packA]; have hq : kindQ s e = 0 := by { rw [kindQ, ← hi0_1, if_neg (by omega), if_neg (by omega)] }; rw [if_pos hkn, hkn, hq]; first | done | rfl)) rfl
  · rw [Decidable.not_not] at h0
    simp only [if_pos h0]
    have hg := good_of h0
    have h12 := good_12 h0
    have hp := listsQ_pos s
    have hln : (listsQ s).length ≤ 5000 := listsL_len s h12 (s.es.length + 1) 0
    refine W_seq rfl ?_
    refine W_reg rfl ?_
    refine Rv rfl rfl rfl (U_fieldAddrR rfl) rfl rfl ?_
    refine Rv rfl rfl rfl (U_load1 rfl rfl rfl) rfl rfl ?_
    refine Rv rfl rfl rfl (U_lenOf rfl len_ros) rfl rfl ?_
    refine Rv rfl rfl rfl (U_sub rfl rfl (w64 (by omega) (by omega))) rfl rfl ?_
    refine Rv rfl rfl rfl (U_move rfl) rfl rfl ?_
    refine Rv rfl rfl rfl (U_buildSliceF (by rfl) (by decide) rfl rfl rfl) rfl rfl ?_
    refine Rv rfl rfl rfl (U_call rfl rfl (within_p 0 (((s.es.length : Nat) : Int) - 1) [e] (some 1) (by simp)) rfl) rfl rfl ?_
    refine Rv rfl rfl rfl (U_not rfl) rfl rfl ?_
    refine Rv rfl rfl rfl (U_assign rfl) rfl rfl ?_
    refine Re rfl ?_
    refine thenQ_n ?_
    refine Wcond rfl rfl (fun h1 => ?_) (fun h1 => ?_)
    · have hkn : kndS s e = 2 := by rw [kndS, if_pos h0, if_neg (by simpa using h1)]
      have hkn0 : kndS s e ≠ 0 := by rw [hkn]; omega
      refine W_seq rfl ?_
      refine W_reg rfl ?_
      refine Rv rfl rfl rfl (U_assign rfl) rfl rfl ?_
      refine Rv rfl rfl rfl (U_assign rfl) rfl rfl ?_
      refine Re rfl ?_
      refine thenQ_n ?_
      refine W_ret rfl ?_
      refine blkQ_r ?_
      refine thenQ_r ?_
      exact retL (rlT rfl (rlT rfl rl0)) (by first | rfl | (simp only [packA]; rw [if_neg hkn0, hkn]; first | done | rfl) | (simp only [packA]; have hq : kindQ s e = 2 := by { rw [kindQ, ← hi0_1, if_pos (by omega)] }; rw [if_pos hkn, hkn, hq]; first | done | rfl) | (simp only [packA]; have hq : kindQ s e = 1 := by { rw [kindQ, ← hi0_1, if_neg (by omega), if_pos (by omega)] }; rw [if_pos hkn, hkn, hq]; first | done | rfl) | (simp only [packA]; have hq : kindQ s e = 0 := by { rw [kindQ, ← hi0_1, if_neg (by omega), if_neg (by omega)] }; rw [if_pos hkn, hkn, hq]; first | done | rfl)) rfl
    · have h1' := Bool.eq_false_iff.1 h1
      have hkn : kndS s e = 0 := by rw [kndS, if_pos h0, if_pos (by simpa using h1)]
      refine W_skip rfl ?_
      refine blkQ_n ?_
      refine thenQ_n ?_
      refine W_seq rfl ?_
      refine W_reg rfl ?_
      refine Rv rfl rfl rfl (U_assign rfl) rfl rfl ?_
      refine Rv rfl rfl rfl (U_assign rfl) rfl rfl ?_
      refine Re rfl ?_
      refine thenQ_n ?_
      refine W_seq rfl ?_
      refine W_seq rfl ?_
      refine W_reg rfl ?_
      refine Rv rfl rfl rfl (U_move rfl) rfl rfl ?_
      refine Rv rfl rfl rfl (U_call rfl rfl (lists_p s c (by assumption) (by assumption)) rfl) rfl rfl ?_
      refine Rv rfl rfl rfl (U_lenOf rfl len_ros) rfl rfl ?_
      refine Rv rfl rfl rfl (U_move rfl) rfl rfl ?_
      refine Re rfl ?_
      refine thenQ_n ?_
      refine W_block rfl ?_
      refine LoopTo (T' := [(1, i64 e), (8, i64 ((0 : Nat) : Int)), (9, i64 ((0 : Nat) : Int)), (31, .ros ((listsQ s).map listA) ((listsQ s).length) none), (32, i64 (((listsQ s).length : Nat) : Int)), (33, i64 ((0 : Nat) : Int))]) (H' := []) (n := 0) rfl (fun mz_ qz_ => ∃ (k : Nat) (a : Nat) (b : Nat), k ≤ (listsQ s).length ∧ a = inC e ((listsQ s).take k) ∧ a + b = k ∧ mz_ = (listsQ s).length - k ∧ qz_ = ⟨[(1, i64 e), (8, i64 ((a : Nat) : Int)), (9, i64 ((b : Nat) : Int)), (31, .ros ((listsQ s).map listA) ((listsQ s).length) none), (32, i64 (((listsQ s).length : Nat) : Int)), (33, i64 ((k : Nat) : Int))], [], 0, []⟩) ⟨0, 0, 0, (by omega), rfl, rfl, rfl, rfl⟩ id ⟨eD rfl rfl, eD rfl rfl, eD rfl rfl, eD rfl rfl, eD rfl rfl, eD rfl rfl, trivial⟩ trivial rfl rfl rfl rfl (fun _ _ => rfl) ?_
      rintro _ _ ⟨k, a, b, hi0_0, hi0_1, hi0_2, rfl, rfl⟩
      refine W_seq rfl ?_
      refine W_reg rfl ?_
      refine Rv rfl rfl rfl (U_lss rfl rfl) rfl rfl ?_
      refine Re rfl ?_
      refine thenQ_n ?_
      refine W_seq rfl ?_
      refine WcondP rfl rfl (fun hc2 => ?_) (fun hc2 => ?_)
      · have hck : k < (listsQ s).length := by omega
        have hsm := listsL_small s (s.es.length + 1) 0 (listsQ s)[k] (List.getElem_mem _)
        refine W_skip rfl ?_
        refine thenQ_n ?_
        refine W_seq rfl ?_
        refine W_block rfl ?_
        refine W_seq rfl ?_
        refine W_reg rfl ?_
        have hx1 : k < (listsQ s).length := by omega
        refine Rv rfl rfl rfl (U_indexR (j := k) rfl rfl rfl hx1) rfl rfl ?_
        refine Rv rfl rfl rfl (U_load1 rfl rfl (getM hx1)) rfl rfl ?_
        refine Rv rfl rfl rfl (U_assign rfl) rfl rfl ?_
        refine Re rfl ?_
        refine thenQ_n ?_
        refine W_seq rfl ?_
        refine W_seq rfl ?_
        refine W_reg rfl ?_
        refine Rv rfl rfl rfl (U_move rfl) rfl rfl ?_
        refine Rv rfl rfl rfl (U_move rfl) rfl rfl ?_
        refine Rv rfl rfl rfl (U_call rfl rfl (contains_p ((listsQ s)[k]) e none (by omega)) rfl) rfl rfl ?_
        refine Re rfl ?_
        refine thenQ_n ?_
        refine Wcond rfl rfl (fun hc3 => ?_) (fun hc3 => ?_)
        · refine W_seq rfl ?_
          refine W_reg rfl ?_
          refine Rv rfl rfl rfl (U_move rfl) rfl rfl ?_
          refine Rv rfl rfl rfl (U_add rfl rfl (w64e (m := ((a + 1 : Nat) : Int)) (by omega) (by omega) (by omega))) rfl rfl ?_
          refine Rv rfl rfl rfl (U_assign rfl) rfl rfl ?_
          refine Re rfl ?_
          refine thenQ_n ?_
          refine W_exit rfl ?_
          refine thenQ_x ?_
          refine blkQ_x rfl ?_
          refine thenQ_n ?_
          refine W_reg rfl ?_
          refine Rv rfl rfl rfl (U_add rfl rfl (w64e (m := ((k + 1 : Nat) : Int)) (by omega) (by omega) (by omega))) rfl rfl ?_
          refine Rv rfl rfl rfl (U_move rfl) rfl rfl ?_
          refine Re rfl ?_
          refine thenQ_n ?_
          exact againTo (T' := [(1, i64 e), (8, i64 (((a + 1) : Nat) : Int)), (9, i64 ((b : Nat) : Int)), (31, .ros ((listsQ s).map listA) ((listsQ s).length) none), (32, i64 (((listsQ s).length : Nat) : Int)), (33, i64 (((k + 1) : Nat) : Int))]) (H' := []) (n := 0) ((listsQ s).length - (k + 1)) ⟨k + 1, a + 1, b, (by omega), (by rw [inC_succ hck, ← hi0_1]; simp [hc3]), (by omega), rfl, rfl⟩ (by omega) id ⟨eD rfl rfl, eD rfl rfl, eD rfl rfl, eD rfl rfl, eD rfl rfl, eD rfl rfl, trivial⟩ trivial rfl rfl rfl rfl (fun _ _ => rfl)
        · have hc3' := Bool.eq_false_iff.1 hc3
          refine W_skip rfl ?_
          refine thenQ_n ?_
          refine W_reg rfl ?_
          refine Rv rfl rfl rfl (U_move rfl) rfl rfl ?_
          refine Rv rfl rfl rfl (U_add rfl rfl (w64e (m := ((b + 1 : Nat) : Int)) (by omega) (by omega) (by omega))) rfl rfl ?_
          refine Rv rfl rfl rfl (U_assign rfl) rfl rfl ?_
          refine Re rfl ?_
          refine blkQ_n ?_
          refine thenQ_n ?_
          refine W_reg rfl ?_
          refine Rv rfl rfl rfl (U_add rfl rfl (w64e (m := ((k + 1 : Nat) : Int)) (by omega) (by omega) (by omega))) rfl rfl ?_
          refine Rv rfl rfl rfl (U_move rfl) rfl rfl ?_
          refine Re rfl ?_
          refine thenQ_n ?_
          exact againTo (T' := [(1, i64 e), (8, i64 ((a : Nat) : Int)), (9, i64 (((b + 1) : Nat) : Int)), (31, .ros ((listsQ s).map listA) ((listsQ s).length) none), (32, i64 (((listsQ s).length : Nat) : Int)), (33, i64 (((k + 1) : Nat) : Int))]) (H' := []) (n := 0) ((listsQ s).length - (k + 1)) ⟨k + 1, a, b + 1, (by omega), (by rw [inC_succ hck, ← hi0_1]; simp [hc3]), (by omega), rfl, rfl⟩ (by omega) id ⟨eD rfl rfl, eD rfl rfl, eD rfl rfl, eD rfl rfl, eD rfl rfl, eD rfl rfl, trivial⟩ trivial rfl rfl rfl rfl (fun _ _ => rfl)
      · rw [List.take_of_length_le (by omega)] at hi0_1
        refine W_exit rfl ?_
        refine thenQ_x ?_
        refine thenQ_x ?_
        refine blkQ_x rfl ?_
        refine thenQ_n ?_
        refine W_seq rfl ?_
        refine W_block rfl ?_
        refine W_seq rfl ?_
        refine W_reg rfl ?_
        refine Rv rfl rfl rfl (U_move rfl) rfl rfl ?_
        refine Rv rfl rfl rfl (U_eql rfl rfl) rfl rfl ?_
        refine Rv rfl rfl rfl (U_assign rfl) rfl rfl ?_
        refine Re rfl ?_
        refine thenQ_n ?_
        refine WcondP rfl rfl (fun hc4 => ?_) (fun hc4 => ?_)
        · refine W_seq rfl ?_
          refine W_reg rfl ?_
          refine Rv rfl rfl rfl (U_assign rfl) rfl rfl ?_
          refine Rv rfl rfl rfl (U_assign rfl) rfl rfl ?_
          refine Re rfl ?_
          refine thenQ_n ?_
          refine W_ret rfl ?_
          refine blkQ_r ?_
          refine thenQ_r ?_
          exact retL (rlT rfl (rlT rfl rl0)) (by first | rfl | (simp only [packA]; rw [if_neg hkn0, hkn]; first | done | rfl) | (simp only [packA]; have hq : kindQ s e = 2 := by { rw [kindQ, ← hi0_1, if_pos (by omega)] }; rw [if_pos hkn, hkn, hq]; first | done | rfl) | (simp only [packA]; have hq : kindQ s e = 1 := by { rw [kindQ, ← hi0_1, if_neg (by omega), if_pos (by omega)] }; rw [if_pos hkn, hkn, hq]; first | done | rfl) | (simp only [packA]; have hq : kindQ s e = 0 := by { rw [kindQ, ← hi0_1, if_neg (by omega), if_neg (by omega)] }; rw [if_pos hkn, hkn, hq]; first | done | rfl)) rfl
        · refine W_seq rfl ?_
          refine W_reg rfl ?_
          refine Rv rfl rfl rfl (U_move rfl) rfl rfl ?_
          refine Rv rfl rfl rfl (U_gtr rfl rfl) rfl rfl ?_
          refine Rv rfl rfl rfl (U_assign rfl) rfl rfl ?_
          refine Re rfl ?_
          refine thenQ_n ?_
          refine WcondP rfl rfl (fun hc5 => ?_) (fun hc5 => ?_)
          · refine W_seq rfl ?_
            refine W_reg rfl ?_
            refine Rv rfl rfl rfl (U_assign rfl) rfl rfl ?_
            refine Rv rfl rfl rfl (U_assign rfl) rfl rfl ?_
            refine Re rfl ?_
            refine thenQ_n ?_
            refine W_ret rfl ?_
            refine blkQ_r ?_
            refine thenQ_r ?_
            exact retL (rlT rfl (rlT rfl rl0)) (by first | rfl | (simp only [packA]; rw [if_neg hkn0, hkn]; first | done | rfl) | (simp only [packA]; have hq : kindQ s e = 2 := by { rw [kindQ, ← hi0_1, if_pos (by omega)] }; rw [if_pos hkn, hkn, hq]; first | done | rfl) | (simp only [packA]; have hq : kindQ s e = 1 := by { rw [kindQ, ← hi0_1, if_neg (by omega), if_pos (by omega)] }; rw [if_pos hkn, hkn, hq]; first | done | rfl) | (simp only [packA]; have hq : kindQ s e = 0 := by { rw [kindQ, ← hi0_1, if_neg (by omega), if_neg (by omega)] }; rw [if_pos hkn, hkn, hq]; first | done | rfl)) rfl
          · refine W_skip rfl ?_
            refine blkQ_n ?_
            refine thenQ_n ?_
            refine W_seq rfl ?_
            refine W_reg rfl ?_
            refine Rv rfl rfl rfl (U_assign rfl) rfl rfl ?_
            refine Rv rfl rfl rfl (U_assign rfl) rfl rfl ?_
            refine Re rfl ?_
            refine thenQ_n ?_
            refine W_ret rfl ?_
            exact retL (rlT rfl (rlT rfl rl0)) (by first | rfl | (simp only [packA]; rw [if_neg hkn0, hkn]; first | done | rfl) | (simp only [packA]; have hq : kindQ s e = 2 := by { rw [kindQ, ← hi0_1, if_pos (by omega)] }; rw [if_pos hkn, hkn, hq]; first | done | rfl) | (simp only [packA]; have hq : kindQ s e = 1 := by { rw [kindQ, ← hi0_1, if_neg (by omega), if_pos (by omega)] }; rw [if_pos hkn, hkn, hq]; first | done | rfl) | (simp only [packA]; have hq : kindQ s e = 0 := by { rw [kindQ, ← hi0_1, if_neg (by omega), if_neg (by omega)] }; rw [if_pos hkn, hkn, hq]; first | done | rfl)) rfl
end Go.Proofs.Ytapappdgdiaijaa
end

section
/- Contracts of the reference, first part: stars, fractions, bounds. -/
namespace Go.Proofs.Ytapappdgdiaijaa
set_option maxRecDepth 20000
open Go.AE
theorem rangeR_p (lo hi most : Int) (hm : 0 ≤ most ∧ most ≤ 1000000) : Pure Try.prog 70 [.agg [i64 lo, i64 hi], i64 most] (.bool (rangeB lo hi most)) := by
  refine pure_of_body Try.func70 (c := body Try.f70) rfl (by simp [Try.ntmps70]) fun w0 Φ0 => ?_
  refine W_seq rfl ?_
  refine W_reg rfl ?_
  refine Rv rfl rfl rfl (U_boxF rfl rfl rfl) rfl rfl ?_
  refine Rv rfl rfl rfl (U_assign rfl) rfl rfl ?_
  refine Re rfl ?_
  refine thenQ_n ?_
  refine W_seq rfl ?_
  refine Wjoin ⟨[(4, .bool ((decide ((-most) ≤ lo)) && ((decide (lo ≤ hi)) && (decide (hi ≤ most)))))], [], 0, []⟩ ?_ ?_
  · refine W_reg rfl ?_
    refine Rv rfl rfl rfl (U_fieldAddrR rfl) rfl rfl ?_
    refine Rv rfl rfl rfl (U_load1 rfl rfl rfl) rfl rfl ?_
    refine Rv rfl rfl rfl (U_move rfl) rfl rfl ?_
    refine Rv rfl rfl rfl (U_neg rfl (w64 (by omega) (by omega))) rfl rfl ?_
    refine Rv rfl rfl rfl (U_geq rfl rfl) rfl rfl ?_
    refine Rv rfl rfl rfl (U_move rfl) rfl rfl ?_
    refine Rsplit (t := 10) rfl (fun hg1 => ?_) (fun hg1 => ?_)
    · rw [hg1]
      have hg1' : (-most) ≤ lo := of_decide_eq_true hg1
      refine Rv rfl rfl rfl (U_fieldAddrR rfl) rfl rfl ?_
      refine Rv rfl rfl rfl (U_load1 rfl rfl rfl) rfl rfl ?_
      refine Rv rfl rfl rfl (U_fieldAddrR rfl) rfl rfl ?_
      refine Rv rfl rfl rfl (U_load1 rfl rfl rfl) rfl rfl ?_
      refine Rv rfl rfl rfl (U_leq rfl rfl) rfl rfl ?_
      refine Rv rfl rfl rfl (U_pick_t rfl rfl) rfl rfl ?_
      refine Rv rfl rfl rfl (U_move rfl) rfl rfl ?_
      refine Rsplit (t := 17) rfl (fun hg2 => ?_) (fun hg2 => ?_)
      · rw [hg2]
        have hg2' : lo ≤ hi := of_decide_eq_true hg2
        refine Rv rfl rfl rfl (U_fieldAddrR rfl) rfl rfl ?_
        refine Rv rfl rfl rfl (U_load1 rfl rfl rfl) rfl rfl ?_
        refine Rv rfl rfl rfl (U_move rfl) rfl rfl ?_
        refine Rv rfl rfl rfl (U_leq rfl rfl) rfl rfl ?_
        refine Rv rfl rfl rfl (U_pick_t rfl rfl) rfl rfl ?_
        refine Rv rfl rfl rfl (U_assign rfl) rfl rfl ?_
        refine Re rfl ?_
        exact joinTo id ⟨eD rfl rfl, trivial⟩ trivial rfl rfl rfl rfl (fun _ _ => rfl)
      · rw [hg2]
        have hg2' : ¬ (lo ≤ hi) := of_decide_eq_false hg2
        refine Rs rfl rfl rfl rfl rfl ?_
        refine Rs rfl rfl rfl rfl rfl ?_
        refine Rs rfl rfl rfl rfl rfl ?_
        refine Rs rfl rfl rfl rfl rfl ?_
        refine Rv rfl rfl rfl (U_pick_f rfl rfl) rfl rfl ?_
        refine Rv rfl rfl rfl (U_assign rfl) rfl rfl ?_
        refine Re rfl ?_
        exact joinTo id ⟨eD rfl rfl, trivial⟩ trivial rfl rfl rfl rfl (fun _ _ => rfl)
    · rw [hg1]
      have hg1' : ¬ ((-most) ≤ lo) := of_decide_eq_false hg1
      refine Rs rfl rfl rfl rfl rfl ?_
      refine Rs rfl rfl rfl rfl rfl ?_
      refine Rs rfl rfl rfl rfl rfl ?_
      refine Rs rfl rfl rfl rfl rfl ?_
      refine Rs rfl rfl rfl rfl rfl ?_
      refine Rv rfl rfl rfl (U_pick_f rfl rfl) rfl rfl ?_
      refine Rv rfl rfl rfl (U_move rfl) rfl rfl ?_
      refine Rs rfl rfl rfl rfl rfl ?_
      refine Rs rfl rfl rfl rfl rfl ?_
      refine Rs rfl rfl rfl rfl rfl ?_
      refine Rs rfl rfl rfl rfl rfl ?_
      refine Rv rfl rfl rfl (U_pick_f rfl rfl) rfl rfl ?_
      refine Rv rfl rfl rfl (U_assign rfl) rfl rfl ?_
      refine Re rfl ?_
      exact joinTo id ⟨eD rfl rfl, trivial⟩ trivial rfl rfl rfl rfl (fun _ _ => rfl)
  refine thenQ_n ?_
  refine W_ret rfl ?_
  exact retL (rlT rfl rl0) (by first | rfl | (simp only [packA]; congr 1; rw [Bool.eq_iff_iff]; simp [rangeB, inL]; omega; first | done | rfl)) rfl
theorem incr_iff : ∀ (l : List Ent) (last : Int), incr last l = true ↔ (∀ h : 0 < l.length, last < l[0].y) ∧ ∀ j (h : j + 1 < l.length), l[j].y < l[j + 1].y
  | [], last => by simp [incr]
  | e :: l, last => by
    unfold incr
    by_cases h : e.y ≤ last
    · rw [if_pos h]
      constructor
      · intro h2; cases h2
      · intro h2; have := h2.1 (by simp); simp at this; omega
    · rw [if_neg h, incr_iff l e.y]
      constructor
      · rintro ⟨h1, h2⟩
        refine ⟨fun _ => by simp; omega, fun j hj => ?_⟩
        cases j with
        | zero => simpa using h1 (by simpa using hj)
        | succ j => exact h2 j (by simpa using hj)
      · rintro ⟨h1, h2⟩
        refine ⟨fun h3 => by simpa using h2 0 (by simpa using h3), fun j hj => h2 (j + 1) (by simpa using hj)⟩
theorem any_false {α : Type} {p : α → Bool} {l : List α} (h : ∀ j (hj : j < l.length), p l[j] = false) : l.any p = false := by
  rw [List.any_eq_false]; intro x hx; obtain ⟨j, hj, rfl⟩ := List.getElem_of_mem hx; rw [h j hj]; simp
theorem any_true {α : Type} {p : α → Bool} {l : List α} {j : Nat} (hj : j < l.length) (h : p l[j] = true) : l.any p = true := List.any_eq_true.2 ⟨_, List.getElem_mem hj, h⟩
theorem odd_eq (e : Ent) : oddB e = (decide (e.y < 0) || (decide (200 < e.y) || !rangeB e.lo e.hi 10000)) := by
  unfold oddB
  cases rangeB e.lo e.hi 10000
  · simp
  · rw [Bool.eq_iff_iff]; simp [inL]
theorem chk6 {s : Star} (h : inL 1 12 [(s.es.length : Int)] = false) : chkS s = 6 := by rw [chkS, if_pos h]
theorem chk3 {s : Star} (h : inL 1 12 [(s.es.length : Int)] = true) (h2 : (!rangeB s.lo s.hi 500 || s.es.any oddB) = true) : chkS s = 3 := by rw [chkS, if_neg (by rw [h]; simp), if_pos h2]
theorem chk16 {s : Star} (h : inL 1 12 [(s.es.length : Int)] = true) (h2 : (!rangeB s.lo s.hi 500) = false) (h3 : s.es.any oddB = false) (h4 : incr (-1) s.es = false) : chkS s = 16 := by
  rw [chkS, if_neg (by rw [h]; simp), if_neg (by rw [h2, h3]; simp), h4]; rfl
theorem chk0 {s : Star} (h : inL 1 12 [(s.es.length : Int)] = true) (h2 : (!rangeB s.lo s.hi 500) = false) (h3 : s.es.any oddB = false) (h4 : incr (-1) s.es = true) : chkS s = 0 := by
  rw [chkS, if_neg (by rw [h]; simp), if_neg (by rw [h2, h3]; simp), h4]; rfl
theorem odd_pos {es : List Ent} (h : ∀ j (hj : j < es.length), oddB es[j] = false) (h0 : 0 < es.length) : -1 < es[0].y := by
  have := h 0 h0; simp [odd_eq] at this; omega
theorem chkR_p (s : Star) (c : Option Nat) (hl : s.es.length ≤ 1000) : Pure Try.prog 20 [starA s c] (i64 (chkS s)) := by
  refine pure_of_body Try.func20 (c := body Try.f20) rfl (by simp [Try.ntmps20]) fun w0 Φ0 => ?_
  refine W_seq rfl ?_
  refine W_reg rfl ?_
  refine Rv rfl rfl rfl (U_boxF rfl rfl rfl) rfl rfl ?_
  refine Rv rfl rfl rfl (U_assign rfl) rfl rfl ?_
  refine Re rfl ?_
  refine thenQ_n ?_
  refine W_seq rfl ?_
  refine W_seq rfl ?_
  refine Wjoin ⟨[(1, .rop [i64 s.lo, i64 s.hi, .ros (s.es.flatMap entC) s.es.length c] 0), (14, .bool ((decide (((s.es.length : Nat) : Int) < 1)) || (decide (12 < ((s.es.length : Nat) : Int)))))], [], 0, []⟩ ?_ ?_
  · refine W_reg rfl ?_
    refine Rv rfl rfl rfl (U_fieldAddrR rfl) rfl rfl ?_
    refine Rv rfl rfl rfl (U_load1 rfl rfl rfl) rfl rfl ?_
    refine Rv rfl rfl rfl (U_lenOf rfl len_ros) rfl rfl ?_
    refine Rv rfl rfl rfl (U_lss rfl rfl) rfl rfl ?_
    refine Rv rfl rfl rfl (U_move rfl) rfl rfl ?_
    refine Rsplit (t := 9) rfl (fun hg1 => ?_) (fun hg1 => ?_)
    · rw [hg1]
      have hg1' : ((s.es.length : Nat) : Int) < 1 := of_decide_eq_true hg1
      refine Rs rfl rfl rfl rfl rfl ?_
      refine Rs rfl rfl rfl rfl rfl ?_
      refine Rs rfl rfl rfl rfl rfl ?_
      refine Rs rfl rfl rfl rfl rfl ?_
      refine Rv rfl rfl rfl (U_pick_t rfl rfl) rfl rfl ?_
      refine Re rfl ?_
      exact joinTo id ⟨eD rfl rfl, eD rfl rfl, trivial⟩ trivial rfl rfl rfl rfl (fun _ _ => rfl)
    · rw [hg1]
      have hg1' : ¬ (((s.es.length : Nat) : Int) < 1) := of_decide_eq_false hg1
      refine Rv rfl rfl rfl (U_fieldAddrR rfl) rfl rfl ?_
      refine Rv rfl rfl rfl (U_load1 rfl rfl rfl) rfl rfl ?_
      refine Rv rfl rfl rfl (U_lenOf rfl len_ros) rfl rfl ?_
      refine Rv rfl rfl rfl (U_gtr rfl rfl) rfl rfl ?_
      refine Rv rfl rfl rfl (U_pick_f rfl rfl) rfl rfl ?_
      refine Re rfl ?_
      exact joinTo id ⟨eD rfl rfl, eD rfl rfl, trivial⟩ trivial rfl rfl rfl rfl (fun _ _ => rfl)
  refine thenQ_n ?_
  refine Wcond rfl rfl (fun hc0 => ?_) (fun hc0 => ?_)
  · refine W_seq rfl ?_
    refine W_reg rfl ?_
    refine Rv rfl rfl rfl (U_assign rfl) rfl rfl ?_
    refine Re rfl ?_
    refine thenQ_n ?_
    refine W_ret rfl ?_
    refine thenQ_r ?_
    exact retL (rlT rfl rl0) (by first | rfl | (simp only [packA]; rw [chk6 (by simp at hc0; simp [inL]; omega)]; first | done | rfl) | (simp only [packA]; rw [chk3 hin (by rw [hc1]; rfl)]; first | done | rfl) | (simp only [packA]; rw [chk3 hin (by rw [any_true hck (by rw [odd_eq]; exact hc3)]; simp)]; first | done | rfl) | (simp only [packA]; rw [chk16 hin hc1 hodd (by rw [Bool.eq_false_iff]; intro hh; have := ((incr_iff _ _).1 hh).2 (i - 1) (by omega); simp only [show i - 1 + 1 = i by omega] at this; omega)]; first | done | rfl) | (simp only [packA]; rw [chk0 hin hc1 hodd ((incr_iff _ _).2 ⟨fun h => odd_pos (fun j hj => hi0_1 j hj (by omega)) h, fun j hj => hi1_2 j hj (by omega)⟩)]; first | done | rfl)) rfl
  · have hc0' := Bool.eq_false_iff.1 hc0
    have hc0s := hc0
    simp only [Bool.or_eq_false_iff, decide_eq_false_iff_not] at hc0s
    have hin : inL 1 12 [(s.es.length : Int)] = true := by simp [inL]; omega
    refine W_skip rfl ?_
    refine thenQ_n ?_
    refine W_seq rfl ?_
    refine W_seq rfl ?_
    refine W_reg rfl ?_
    refine Rv rfl rfl rfl (U_fieldAddrR rfl) rfl rfl ?_
    refine Rv rfl rfl rfl (U_load2 rfl rfl rfl rfl) rfl rfl ?_
    refine Rv rfl rfl rfl (U_call rfl rfl (rangeR_p s.lo s.hi 500 (by omega)) rfl) rfl rfl ?_
    refine Rv rfl rfl rfl (U_not rfl) rfl rfl ?_
    refine Re rfl ?_
    refine thenQ_n ?_
    refine Wcond rfl rfl (fun hc1 => ?_) (fun hc1 => ?_)
    · refine W_seq rfl ?_
      refine W_reg rfl ?_
      refine Rv rfl rfl rfl (U_assign rfl) rfl rfl ?_
      refine Re rfl ?_
      refine thenQ_n ?_
      refine W_ret rfl ?_
      refine thenQ_r ?_
      exact retL (rlT rfl rl0) (by first | rfl | (simp only [packA]; rw [chk6 (by simp at hc0; simp [inL]; omega)]; first | done | rfl) | (simp only [packA]; rw [chk3 hin (by rw [hc1]; rfl)]; first | done | rfl) | (simp only [packA]; rw [chk3 hin (by rw [any_true hck (by rw [odd_eq]; exact hc3)]; simp)]; first | done | rfl) | (simp only [packA]; rw [chk16 hin hc1 hodd (by rw [Bool.eq_false_iff]; intro hh; have := ((incr_iff _ _).1 hh).2 (i - 1) (by omega); simp only [show i - 1 + 1 = i by omega] at this; omega)]; first | done | rfl) | (simp only [packA]; rw [chk0 hin hc1 hodd ((incr_iff _ _).2 ⟨fun h => odd_pos (fun j hj => hi0_1 j hj (by omega)) h, fun j hj => hi1_2 j hj (by omega)⟩)]; first | done | rfl)) rfl
    · have hc1' := Bool.eq_false_iff.1 hc1
      refine W_skip rfl ?_
      refine thenQ_n ?_
      refine W_seq rfl ?_
      refine W_seq rfl ?_
      refine W_reg rfl ?_
      refine Rv rfl rfl rfl (U_assign rfl) rfl rfl ?_
      refine Re rfl ?_
      refine thenQ_n ?_
      refine W_block rfl ?_
      refine LoopTo (T' := [(1, .rop [i64 s.lo, i64 s.hi, .ros (s.es.flatMap entC) s.es.length c] 0), (3, i64 ((0 : Nat) : Int))]) (H' := []) (n := 0) rfl (fun mz_ qz_ => ∃ (k : Nat), k ≤ s.es.length ∧ (∀ j (hj : j < s.es.length), j < k → oddB s.es[j] = false) ∧ mz_ = s.es.length - k ∧ qz_ = ⟨[(1, .rop [i64 s.lo, i64 s.hi, .ros (s.es.flatMap entC) s.es.length c] 0), (3, i64 ((k : Nat) : Int))], [], 0, []⟩) ⟨0, (by omega), (fun j hj h => absurd h (Nat.not_lt_zero _)), rfl, rfl⟩ id ⟨eD rfl rfl, eD rfl rfl, trivial⟩ trivial rfl rfl rfl rfl (fun _ _ => rfl) ?_
      rintro _ _ ⟨k, hi0_0, hi0_1, rfl, rfl⟩
      refine W_seq rfl ?_
      refine W_seq rfl ?_
      refine W_reg rfl ?_
      refine Rv rfl rfl rfl (U_move rfl) rfl rfl ?_
      refine Rv rfl rfl rfl (U_fieldAddrR rfl) rfl rfl ?_
      refine Rv rfl rfl rfl (U_load1 rfl rfl rfl) rfl rfl ?_
      refine Rv rfl rfl rfl (U_lenOf rfl len_ros) rfl rfl ?_
      refine Rv rfl rfl rfl (U_lss rfl rfl) rfl rfl ?_
      refine Re rfl ?_
      refine thenQ_n ?_
      refine WcondP rfl rfl (fun hc2 => ?_) (fun hc2 => ?_)
      · have hck : k < s.es.length := by omega
        refine W_skip rfl ?_
        refine thenQ_n ?_
        refine W_seq rfl ?_
        refine W_block rfl ?_
        refine W_seq rfl ?_
        refine Wjoin ⟨[(1, .rop [i64 s.lo, i64 s.hi, .ros (s.es.flatMap entC) s.es.length c] 0), (3, i64 ((k : Nat) : Int)), (51, .bool ((decide (s.es[k].y < 0)) || ((decide (200 < s.es[k].y)) || (!(rangeB s.es[k].lo s.es[k].hi 10000)))))], [], 0, []⟩ ?_ ?_
        · refine W_reg rfl ?_
          refine Rv rfl rfl rfl (U_fieldAddrR rfl) rfl rfl ?_
          refine Rv rfl rfl rfl (U_load1 rfl rfl rfl) rfl rfl ?_
          refine Rv rfl rfl rfl (U_move rfl) rfl rfl ?_
          have hx2 : k < s.es.length := by omega
          refine Rv rfl rfl rfl (U_indexR (j := k) rfl rfl rfl hx2) rfl rfl ?_
          refine Rv rfl rfl rfl (U_fieldAddrR rfl) rfl rfl ?_
          refine Rv rfl rfl rfl (U_load1 rfl rfl (ent0 hx2)) rfl rfl ?_
          refine Rv rfl rfl rfl (U_lss rfl rfl) rfl rfl ?_
          refine Rv rfl rfl rfl (U_move rfl) rfl rfl ?_
          refine Rsplit (t := 33) rfl (fun hg3 => ?_) (fun hg3 => ?_)
          · rw [hg3]
            have hg3' : s.es[k].y < 0 := of_decide_eq_true hg3
            refine Rs rfl rfl rfl rfl rfl ?_
            refine Rs rfl rfl rfl rfl rfl ?_
            refine Rs rfl rfl rfl rfl rfl ?_
            refine Rs rfl rfl rfl rfl rfl ?_
            refine Rs rfl rfl rfl rfl rfl ?_
            refine Rs rfl rfl rfl rfl rfl ?_
            refine Rs rfl rfl rfl rfl rfl ?_
            refine Rv rfl rfl rfl (U_pick_t rfl rfl) rfl rfl ?_
            refine Rv rfl rfl rfl (U_move rfl) rfl rfl ?_
            refine Rs rfl rfl rfl rfl rfl ?_
            refine Rs rfl rfl rfl rfl rfl ?_
            refine Rs rfl rfl rfl rfl rfl ?_
            refine Rs rfl rfl rfl rfl rfl ?_
            refine Rs rfl rfl rfl rfl rfl ?_
            refine Rs rfl rfl rfl rfl rfl ?_
            refine Rs rfl rfl rfl rfl rfl ?_
            refine Rs rfl rfl rfl rfl rfl ?_
            refine Rv rfl rfl rfl (U_pick_t rfl rfl) rfl rfl ?_
            refine Re rfl ?_
            exact joinTo id ⟨eD rfl rfl, eD rfl rfl, eD rfl rfl, trivial⟩ trivial rfl rfl rfl rfl (fun _ _ => rfl)
          · rw [hg3]
            have hg3' : ¬ (s.es[k].y < 0) := of_decide_eq_false hg3
            refine Rv rfl rfl rfl (U_fieldAddrR rfl) rfl rfl ?_
            refine Rv rfl rfl rfl (U_load1 rfl rfl rfl) rfl rfl ?_
            refine Rv rfl rfl rfl (U_move rfl) rfl rfl ?_
            refine Rv rfl rfl rfl (U_indexR (j := k) rfl rfl rfl hx2) rfl rfl ?_
            refine Rv rfl rfl rfl (U_fieldAddrR rfl) rfl rfl ?_
            refine Rv rfl rfl rfl (U_load1 rfl rfl (ent0 hx2)) rfl rfl ?_
            refine Rv rfl rfl rfl (U_gtr rfl rfl) rfl rfl ?_
            refine Rv rfl rfl rfl (U_pick_f rfl rfl) rfl rfl ?_
            refine Rv rfl rfl rfl (U_move rfl) rfl rfl ?_
            refine Rsplit (t := 42) rfl (fun hg4 => ?_) (fun hg4 => ?_)
            · rw [hg4]
              have hg4' : 200 < s.es[k].y := of_decide_eq_true hg4
              refine Rs rfl rfl rfl rfl rfl ?_
              refine Rs rfl rfl rfl rfl rfl ?_
              refine Rs rfl rfl rfl rfl rfl ?_
              refine Rs rfl rfl rfl rfl rfl ?_
              refine Rs rfl rfl rfl rfl rfl ?_
              refine Rs rfl rfl rfl rfl rfl ?_
              refine Rs rfl rfl rfl rfl rfl ?_
              refine Rs rfl rfl rfl rfl rfl ?_
              refine Rv rfl rfl rfl (U_pick_t rfl rfl) rfl rfl ?_
              refine Re rfl ?_
              exact joinTo id ⟨eD rfl rfl, eD rfl rfl, eD rfl rfl, trivial⟩ trivial rfl rfl rfl rfl (fun _ _ => rfl)
            · rw [hg4]
              have hg4' : ¬ (200 < s.es[k].y) := of_decide_eq_false hg4
              refine Rv rfl rfl rfl (U_fieldAddrR rfl) rfl rfl ?_
              refine Rv rfl rfl rfl (U_load1 rfl rfl rfl) rfl rfl ?_
              refine Rv rfl rfl rfl (U_move rfl) rfl rfl ?_
              refine Rv rfl rfl rfl (U_indexR (j := k) rfl rfl rfl hx2) rfl rfl ?_
              refine Rv rfl rfl rfl (U_fieldAddrR rfl) rfl rfl ?_
              refine Rv rfl rfl rfl (U_load2 rfl rfl (ent1 hx2) (ent2 hx2)) rfl rfl ?_
              refine Rv rfl rfl rfl (U_call rfl rfl (rangeR_p s.es[k].lo s.es[k].hi 10000 (by omega)) rfl) rfl rfl ?_
              refine Rv rfl rfl rfl (U_not rfl) rfl rfl ?_
              refine Rv rfl rfl rfl (U_pick_f rfl rfl) rfl rfl ?_
              refine Re rfl ?_
              exact joinTo id ⟨eD rfl rfl, eD rfl rfl, eD rfl rfl, trivial⟩ trivial rfl rfl rfl rfl (fun _ _ => rfl)
        refine thenQ_n ?_
        refine Wcond rfl rfl (fun hc3 => ?_) (fun hc3 => ?_)
        · refine W_seq rfl ?_
          refine W_reg rfl ?_
          refine Rv rfl rfl rfl (U_assign rfl) rfl rfl ?_
          refine Re rfl ?_
          refine thenQ_n ?_
          refine W_ret rfl ?_
          refine blkQ_r ?_
          refine thenQ_r ?_
          refine thenQ_r ?_
          refine blkQ_r ?_
          refine thenQ_r ?_
          exact retL (rlT rfl rl0) (by first | rfl | (simp only [packA]; rw [chk6 (by simp at hc0; simp [inL]; omega)]; first | done | rfl) | (simp only [packA]; rw [chk3 hin (by rw [hc1]; rfl)]; first | done | rfl) | (simp only [packA]; rw [chk3 hin (by rw [any_true hck (by rw [odd_eq]; exact hc3)]; simp)]; first | done | rfl) | (simp only [packA]; rw [chk16 hin hc1 hodd (by rw [Bool.eq_false_iff]; intro hh; have := ((incr_iff _ _).1 hh).2 (i - 1) (by omega); simp only [show i - 1 + 1 = i by omega] at this; omega)]; first | done | rfl) | (simp only [packA]; rw [chk0 hin hc1 hodd ((incr_iff _ _).2 ⟨fun h => odd_pos (fun j hj => hi0_1 j hj (by omega)) h, fun j hj => hi1_2 j hj (by omega)⟩)]; first | done | rfl)) rfl
        · have hc3' := Bool.eq_false_iff.1 hc3
          refine W_skip rfl ?_
          refine blkQ_n ?_
          refine thenQ_n ?_
          refine W_reg rfl ?_
          refine Rv rfl rfl rfl (U_move rfl) rfl rfl ?_
          refine Rv rfl rfl rfl (U_add rfl rfl (w64e (m := ((k + 1 : Nat) : Int)) (by omega) (by omega) (by omega))) rfl rfl ?_
          refine Rv rfl rfl rfl (U_assign rfl) rfl rfl ?_
          refine Re rfl ?_
          refine thenQ_n ?_
          exact againTo (T' := [(1, .rop [i64 s.lo, i64 s.hi, .ros (s.es.flatMap entC) s.es.length c] 0), (3, i64 (((k + 1) : Nat) : Int))]) (H' := []) (n := 0) (s.es.length - (k + 1)) ⟨k + 1, (by omega), (by intro j hj h; rcases Nat.lt_succ_iff_lt_or_eq.1 h with h | rfl; exact hi0_1 j hj h; rw [odd_eq]; exact hc3), rfl, rfl⟩ (by omega) id ⟨eD rfl rfl, eD rfl rfl, trivial⟩ trivial rfl rfl rfl rfl (fun _ _ => rfl)
      · have hodd := any_false (p := oddB) (l := s.es) fun j hj => hi0_1 j hj (by omega)
        refine W_exit rfl ?_
        refine thenQ_x ?_
        refine thenQ_x ?_
        refine blkQ_x rfl ?_
        refine thenQ_n ?_
        refine W_seq rfl ?_
        refine W_seq rfl ?_
        refine W_reg rfl ?_
        refine Rv rfl rfl rfl (U_assign rfl) rfl rfl ?_
        refine Re rfl ?_
        refine thenQ_n ?_
        refine W_block rfl ?_
        refine LoopTo (T' := [(1, .rop [i64 s.lo, i64 s.hi, .ros (s.es.flatMap entC) s.es.length c] 0), (4, i64 ((1 : Nat) : Int))]) (H' := []) (n := 0) rfl (fun mz_ qz_ => ∃ (i : Nat), i ≤ s.es.length ∧ 1 ≤ i ∧ (∀ j (hj : j + 1 < s.es.length), j + 1 < i → s.es[j].y < s.es[j + 1].y) ∧ mz_ = s.es.length - i ∧ qz_ = ⟨[(1, .rop [i64 s.lo, i64 s.hi, .ros (s.es.flatMap entC) s.es.length c] 0), (4, i64 ((i : Nat) : Int))], [], 0, []⟩) ⟨1, (by omega), (Nat.le_refl _), (fun j hj h => absurd h (by omega)), rfl, rfl⟩ id ⟨eD rfl rfl, eD rfl rfl, trivial⟩ trivial rfl rfl rfl rfl (fun _ _ => rfl) ?_
        rintro _ _ ⟨i, hi1_0, hi1_1, hi1_2, rfl, rfl⟩
        refine W_seq rfl ?_
        refine W_seq rfl ?_
        refine W_reg rfl ?_
        refine Rv rfl rfl rfl (U_move rfl) rfl rfl ?_
        refine Rv rfl rfl rfl (U_fieldAddrR rfl) rfl rfl ?_
        refine Rv rfl rfl rfl (U_load1 rfl rfl rfl) rfl rfl ?_
        refine Rv rfl rfl rfl (U_lenOf rfl len_ros) rfl rfl ?_
        refine Rv rfl rfl rfl (U_lss rfl rfl) rfl rfl ?_
        refine Re rfl ?_
        refine thenQ_n ?_
        refine WcondP rfl rfl (fun hc4 => ?_) (fun hc4 => ?_)
        · have hci : i < s.es.length := by omega
          have hci2 : i - 1 < s.es.length := by omega
          refine W_skip rfl ?_
          refine thenQ_n ?_
          refine W_seq rfl ?_
          refine W_block rfl ?_
          refine W_seq rfl ?_
          refine Wdraw rfl (by kernel_rfl) (by kernel_rfl) ?_
          refine Dv rfl rfl rfl (U_fieldAddrR rfl) rfl rfl ?_
          refine Dv rfl rfl rfl (U_load1 rfl rfl rfl) rfl rfl ?_
          refine Dv rfl rfl rfl (U_move rfl) rfl rfl ?_
          have hx5 : i < s.es.length := by omega
          refine Dv rfl rfl rfl (U_indexR (j := i) rfl rfl rfl hx5) rfl rfl ?_
          refine Dv rfl rfl rfl (U_fieldAddrR rfl) rfl rfl ?_
          refine Dv rfl rfl rfl (U_load1 rfl rfl (ent0 hx5)) rfl rfl ?_
          refine Dv rfl rfl rfl (U_fieldAddrR rfl) rfl rfl ?_
          refine Dv rfl rfl rfl (U_load1 rfl rfl rfl) rfl rfl ?_
          refine Dv rfl rfl rfl (U_move rfl) rfl rfl ?_
          refine Dv rfl rfl rfl (U_sub rfl rfl (w64e (m := ((i - 1 : Nat) : Int)) (by omega) (by omega) (by omega))) rfl rfl ?_
          have hx6 : (i - 1) < s.es.length := by omega
          refine Dv rfl rfl rfl (U_indexR (j := (i - 1)) rfl rfl rfl hx6) rfl rfl ?_
          refine Dv rfl rfl rfl (U_fieldAddrR rfl) rfl rfl ?_
          refine Dv rfl rfl rfl (U_load1 rfl rfl (ent0 hx6)) rfl rfl ?_
          refine Dv rfl rfl rfl (U_leq rfl rfl) rfl rfl ?_
          refine Dr.nil rfl ?_
          refine thenQ_n ?_
          refine WcondP rfl rfl (fun hc5 => ?_) (fun hc5 => ?_)
          · refine W_seq rfl ?_
            refine W_reg rfl ?_
            refine Rv rfl rfl rfl (U_assign rfl) rfl rfl ?_
            refine Re rfl ?_
            refine thenQ_n ?_
            refine W_ret rfl ?_
            refine blkQ_r ?_
            refine thenQ_r ?_
            refine thenQ_r ?_
            refine blkQ_r ?_
            refine thenQ_r ?_
            exact retL (rlT rfl rl0) (by first | rfl | (simp only [packA]; rw [chk6 (by simp at hc0; simp [inL]; omega)]; first | done | rfl) | (simp only [packA]; rw [chk3 hin (by rw [hc1]; rfl)]; first | done | rfl) | (simp only [packA]; rw [chk3 hin (by rw [any_true hck (by rw [odd_eq]; exact hc3)]; simp)]; first | done | rfl) | (simp only [packA]; rw [chk16 hin hc1 hodd (by rw [Bool.eq_false_iff]; intro hh; have := ((incr_iff _ _).1 hh).2 (i - 1) (by omega); simp only [show i - 1 + 1 = i by omega] at this; omega)]; first | done | rfl) | (simp only [packA]; rw [chk0 hin hc1 hodd ((incr_iff _ _).2 ⟨fun h => odd_pos (fun j hj => hi0_1 j hj (by omega)) h, fun j hj => hi1_2 j hj (by omega)⟩)]; first | done | rfl)) rfl
          · refine W_skip rfl ?_
            refine blkQ_n ?_
            refine thenQ_n ?_
            refine W_reg rfl ?_
            refine Rv rfl rfl rfl (U_move rfl) rfl rfl ?_
            refine Rv rfl rfl rfl (U_add rfl rfl (w64e (m := ((i + 1 : Nat) : Int)) (by omega) (by omega) (by omega))) rfl rfl ?_
            refine Rv rfl rfl rfl (U_assign rfl) rfl rfl ?_
            refine Re rfl ?_
            refine thenQ_n ?_
            exact againTo (T' := [(1, .rop [i64 s.lo, i64 s.hi, .ros (s.es.flatMap entC) s.es.length c] 0), (4, i64 (((i + 1) : Nat) : Int))]) (H' := []) (n := 0) (s.es.length - (i + 1)) ⟨i + 1, (by omega), (by omega), (by intro j hj h; by_cases e : j + 1 = i; (subst e; simp only [Nat.add_sub_cancel] at hc5; omega); exact hi1_2 j hj (by omega)), rfl, rfl⟩ (by omega) id ⟨eD rfl rfl, eD rfl rfl, trivial⟩ trivial rfl rfl rfl rfl (fun _ _ => rfl)
        · refine W_exit rfl ?_
          refine thenQ_x ?_
          refine thenQ_x ?_
          refine blkQ_x rfl ?_
          refine thenQ_n ?_
          refine W_seq rfl ?_
          refine W_reg rfl ?_
          refine Rv rfl rfl rfl (U_assign rfl) rfl rfl ?_
          refine Re rfl ?_
          refine thenQ_n ?_
          refine W_ret rfl ?_
          exact retL (rlT rfl rl0) (by first | rfl | (simp only [packA]; rw [chk6 (by simp at hc0; simp [inL]; omega)]; first | done | rfl) | (simp only [packA]; rw [chk3 hin (by rw [hc1]; rfl)]; first | done | rfl) | (simp only [packA]; rw [chk3 hin (by rw [any_true hck (by rw [odd_eq]; exact hc3)]; simp)]; first | done | rfl) | (simp only [packA]; rw [chk16 hin hc1 hodd (by rw [Bool.eq_false_iff]; intro hh; have := ((incr_iff _ _).1 hh).2 (i - 1) (by omega); simp only [show i - 1 + 1 = i by omega] at this; omega)]; first | done | rfl) | (simp only [packA]; rw [chk0 hin hc1 hodd ((incr_iff _ _).2 ⟨fun h => odd_pos (fun j hj => hi0_1 j hj (by omega)) h, fun j hj => hi1_2 j hj (by omega)⟩)]; first | done | rfl)) rfl
theorem fracR_p (n d : Int) (hn : -9000000000000000000 ≤ n ∧ n ≤ 9000000000000000000) (hd : 1 ≤ d ∧ d ≤ 9000000000000000000) : Pure Try.prog 56 [i64 n, i64 d] (ratA (frac n d)) := by
  obtain ⟨e, rfl⟩ : ∃ e : Nat, d = e := ⟨d.toNat, by omega⟩
  refine pure_of_body Try.func56 (c := body Try.f56) rfl (by simp [Try.ntmps56]) fun w0 Φ0 => ?_
  refine W_seq rfl ?_
  refine W_reg rfl ?_
  refine Ra rfl rfl rfl (U_alloc) rfl rfl rfl ?_
  refine Re rfl ?_
  refine thenQ_n ?_
  refine W_seq rfl ?_
  refine W_reg rfl ?_
  refine Rv rfl rfl rfl (U_move rfl) rfl rfl ?_
  refine Rv rfl rfl rfl (U_move rfl) rfl rfl ?_
  refine Rv rfl rfl rfl (U_neg rfl (w64 (by omega) (by omega))) rfl rfl ?_
  refine Rv rfl rfl rfl (U_max rfl rfl (show max n (-n) = ((n.natAbs : Nat) : Int) by omega)) rfl rfl ?_
  refine Rv rfl rfl rfl (U_move rfl) rfl rfl ?_
  refine Rv rfl rfl rfl (U_assign rfl) rfl rfl ?_
  refine Rv rfl rfl rfl (U_assign rfl) rfl rfl ?_
  refine Re rfl ?_
  refine thenQ_n ?_
  refine W_seq rfl ?_
  refine W_block rfl ?_
  refine LoopTo (T' := [(0, i64 n), (1, i64 ((e : Nat) : Int)), (4, .ptr 0 0), (5, i64 ((n.natAbs : Nat) : Int)), (6, i64 ((e : Nat) : Int))]) (H' := [(0, some (.cells [i64 0, i64 0] 28))]) (n := 1) rfl (fun mz_ qz_ => ∃ (a : Nat) (b : Nat), Nat.gcd a b = Int.gcd n ((e : Nat) : Int) ∧ a ≤ 9000000000000000000 ∧ b ≤ 9000000000000000000 ∧ mz_ = 0 + b ∧ qz_ = ⟨[(0, i64 n), (1, i64 ((e : Nat) : Int)), (4, .ptr 0 0), (5, i64 ((a : Nat) : Int)), (6, i64 ((b : Nat) : Int))], [(0, some (.cells [i64 0, i64 0] 28))], 1, []⟩) ⟨n.natAbs, e, rfl, (by omega), (by omega), rfl, rfl⟩ id ⟨eD rfl rfl, eD rfl rfl, e_ rfl rfl, eD rfl rfl, eD rfl rfl, trivial⟩ ⟨rD rfl rfl rfl, trivial⟩ rfl rfl rfl rfl (fun _ _ => rfl) ?_
  rintro _ _ ⟨a, b, hi0_0, hi0_1, hi0_2, rfl, rfl⟩
  refine W_seq rfl ?_
  refine W_seq rfl ?_
  refine W_reg rfl ?_
  refine Rv rfl rfl rfl (U_move rfl) rfl rfl ?_
  refine Rv rfl rfl rfl (U_gtr rfl rfl) rfl rfl ?_
  refine Re rfl ?_
  refine thenQ_n ?_
  refine WcondP rfl rfl (fun hc0 => ?_) (fun hc0 => ?_)
  · refine W_skip rfl ?_
    refine thenQ_n ?_
    refine W_block rfl ?_
    refine Wdraw rfl (by kernel_rfl) (by kernel_rfl) ?_
    refine Dv rfl rfl rfl (U_move rfl) rfl rfl ?_
    refine Dv rfl rfl rfl (U_move rfl) rfl rfl ?_
    refine Dv rfl rfl rfl (U_move rfl) rfl rfl ?_
    refine Dv rfl rfl rfl (U_rem (c := ((a % b : Nat) : Int)) rfl rfl (by omega) (tmodN _ _)) rfl rfl ?_
    refine Dv rfl rfl rfl (U_assign rfl) rfl rfl ?_
    refine Dv rfl rfl rfl (U_assign rfl) rfl rfl ?_
    refine Dr.nil rfl ?_
    refine blkQ_n ?_
    refine thenQ_n ?_
    exact againTo (T' := [(0, i64 n), (1, i64 ((e : Nat) : Int)), (4, .ptr 0 0), (5, i64 ((b : Nat) : Int)), (6, i64 (((a % b) : Nat) : Int))]) (H' := [(0, some (.cells [i64 0, i64 0] 28))]) (n := 1) (0 + (a % b)) ⟨b, a % b, (by rw [← hi0_0]; exact gcd_step), (by omega), (by have := Nat.mod_le a b; omega), rfl, rfl⟩ (by have := Nat.mod_lt a (show 0 < b by omega); omega) id ⟨eD rfl rfl, eD rfl rfl, e_ rfl rfl, eD rfl rfl, eD rfl rfl, trivial⟩ ⟨rD rfl rfl rfl, trivial⟩ rfl rfl rfl rfl (fun _ _ => rfl)
  · have hb0 : b = 0 := by omega
    rw [hb0, Nat.gcd_zero_right] at hi0_0
    have ha : 0 < a := by rw [hi0_0]; exact Int.gcd_pos_of_ne_zero_right _ (by omega)
    refine W_exit rfl ?_
    refine thenQ_x ?_
    refine thenQ_x ?_
    refine blkQ_x rfl ?_
    refine thenQ_n ?_
    refine W_seq rfl ?_
    refine Wdraw rfl (by kernel_rfl) (by kernel_rfl) ?_
    refine Dv rfl rfl rfl (U_move rfl) rfl rfl ?_
    refine Dv rfl rfl rfl (U_move rfl) rfl rfl ?_
    refine Dv rfl rfl rfl (U_quo (c := (n.tdiv ((a : Nat) : Int))) rfl rfl (by omega) (wdiv hn a)) rfl rfl ?_
    refine Dv rfl rfl rfl (U_move rfl) rfl rfl ?_
    refine Dv rfl rfl rfl (U_move rfl) rfl rfl ?_
    refine Dv rfl rfl rfl (U_quo (c := ((((e : Nat) : Int)).tdiv ((a : Nat) : Int))) rfl rfl (by omega) (wdiv (by omega) a)) rfl rfl ?_
    refine Dv rfl rfl rfl (U_build rfl rfl) rfl rfl ?_
    refine Dn_ rfl rfl rfl (U_storeAll rfl rfl rfl rfl rfl rfl) rfl rfl ?_
    refine Dr.nil rfl ?_
    refine thenQ_n ?_
    refine W_ret rfl ?_
    exact retL (rlA rfl rfl rfl rl0) (by first | rfl | (simp only [packA]; rw [← frac_eq n ((e : Nat) : Int) a hi0_0]; first | done | rfl)) rfl
theorem lessR_p (a b : Int × Int) (h1 : -9000000000000000000 ≤ a.1 * b.2 ∧ a.1 * b.2 ≤ 9000000000000000000) (h2 : -9000000000000000000 ≤ b.1 * a.2 ∧ b.1 * a.2 ≤ 9000000000000000000) : Pure Try.prog 49 [ratA a, ratA b] (.bool (lessQ a b)) := by
  refine pure_of_body Try.func49 (c := body Try.f49) rfl (by simp [Try.ntmps49]) fun w0 Φ0 => ?_
  refine W_seq rfl ?_
  refine W_reg rfl ?_
  refine Rv rfl rfl rfl (U_boxF rfl rfl rfl) rfl rfl ?_
  refine Rv rfl rfl rfl (U_boxF rfl rfl rfl) rfl rfl ?_
  refine Rv rfl rfl rfl (U_assign rfl) rfl rfl ?_
  refine Re rfl ?_
  refine thenQ_n ?_
  refine W_seq rfl ?_
  refine W_reg rfl ?_
  refine Rv rfl rfl rfl (U_fieldAddrR rfl) rfl rfl ?_
  refine Rv rfl rfl rfl (U_load1 rfl rfl rfl) rfl rfl ?_
  refine Rv rfl rfl rfl (U_fieldAddrR rfl) rfl rfl ?_
  refine Rv rfl rfl rfl (U_load1 rfl rfl rfl) rfl rfl ?_
  refine Rv rfl rfl rfl (U_mul rfl rfl (w64 (by omega) (by omega))) rfl rfl ?_
  refine Rv rfl rfl rfl (U_fieldAddrR rfl) rfl rfl ?_
  refine Rv rfl rfl rfl (U_load1 rfl rfl rfl) rfl rfl ?_
  refine Rv rfl rfl rfl (U_fieldAddrR rfl) rfl rfl ?_
  refine Rv rfl rfl rfl (U_load1 rfl rfl rfl) rfl rfl ?_
  refine Rv rfl rfl rfl (U_mul rfl rfl (w64 (by omega) (by omega))) rfl rfl ?_
  refine Rv rfl rfl rfl (U_lss rfl rfl) rfl rfl ?_
  refine Rv rfl rfl rfl (U_assign rfl) rfl rfl ?_
  refine Re rfl ?_
  refine thenQ_n ?_
  refine W_ret rfl ?_
  exact retL (rlT rfl rl0) (by first | rfl | (simp only [packA]; rfl; first | done | rfl)) rfl
theorem whole_p (n : Int) : Pure Try.prog 80 [i64 n] (ratA (n, 1)) := by
  refine pure_of_body Try.func80 (c := body Try.f80) rfl (by simp [Try.ntmps80]) fun w0 Φ0 => ?_
  refine W_seq rfl ?_
  refine W_reg rfl ?_
  refine Ra rfl rfl rfl (U_alloc) rfl rfl rfl ?_
  refine Re rfl ?_
  refine thenQ_n ?_
  refine W_seq rfl ?_
  refine W_reg rfl ?_
  refine Rv rfl rfl rfl (U_move rfl) rfl rfl ?_
  refine Rv rfl rfl rfl (U_build rfl rfl) rfl rfl ?_
  refine Rn rfl rfl rfl (U_storeAll rfl rfl rfl rfl rfl rfl) rfl ?_
  refine Re rfl ?_
  refine thenQ_n ?_
  refine W_ret rfl ?_
  exact retL (rlA rfl rfl rfl rl0) (by first | rfl | (simp only [packA]; rfl; first | done | rfl)) rfl
/-- Whether a fraction is within the limits of a motion. -/
def isFrB (q : Int × Int) : Bool := inL (-8589934592) 8589934592 [q.1] && inL 1 40000 [q.2]
/-- Whether a motion agrees. -/
def agB (s : Star) (p v : Int × Int) : Bool := inL (s.lo * v.2) (s.hi * v.2) [v.1] && s.es.all (agE p v)
theorem isFr_p (q : Int × Int) : Pure Try.prog 71 [ratA q] (.bool (isFrB q)) := by
  refine pure_of_body Try.func71 (c := body Try.f71) rfl (by simp [Try.ntmps71]) fun w0 Φ0 => ?_
  refine W_seq rfl ?_
  refine W_reg rfl ?_
  refine Rv rfl rfl rfl (U_boxF rfl rfl rfl) rfl rfl ?_
  refine Rv rfl rfl rfl (U_assign rfl) rfl rfl ?_
  refine Re rfl ?_
  refine thenQ_n ?_
  refine W_seq rfl ?_
  refine Wjoin ⟨[(2, .bool ((decide ((-8589934592) ≤ q.1)) && ((decide (q.1 ≤ 8589934592)) && ((decide (1 ≤ q.2)) && (decide (q.2 ≤ 40000))))))], [], 0, []⟩ ?_ ?_
  · refine W_reg rfl ?_
    refine Rv rfl rfl rfl (U_fieldAddrR rfl) rfl rfl ?_
    refine Rv rfl rfl rfl (U_load1 rfl rfl rfl) rfl rfl ?_
    refine Rv rfl rfl rfl (U_geq rfl rfl) rfl rfl ?_
    refine Rv rfl rfl rfl (U_move rfl) rfl rfl ?_
    refine Rsplit (t := 6) rfl (fun hg1 => ?_) (fun hg1 => ?_)
    · rw [hg1]
      have hg1' : (-8589934592) ≤ q.1 := of_decide_eq_true hg1
      refine Rv rfl rfl rfl (U_fieldAddrR rfl) rfl rfl ?_
      refine Rv rfl rfl rfl (U_load1 rfl rfl rfl) rfl rfl ?_
      refine Rv rfl rfl rfl (U_leq rfl rfl) rfl rfl ?_
      refine Rv rfl rfl rfl (U_pick_t rfl rfl) rfl rfl ?_
      refine Rv rfl rfl rfl (U_move rfl) rfl rfl ?_
      refine Rsplit (t := 11) rfl (fun hg2 => ?_) (fun hg2 => ?_)
      · rw [hg2]
        have hg2' : q.1 ≤ 8589934592 := of_decide_eq_true hg2
        refine Rv rfl rfl rfl (U_fieldAddrR rfl) rfl rfl ?_
        refine Rv rfl rfl rfl (U_load1 rfl rfl rfl) rfl rfl ?_
        refine Rv rfl rfl rfl (U_geq rfl rfl) rfl rfl ?_
        refine Rv rfl rfl rfl (U_pick_t rfl rfl) rfl rfl ?_
        refine Rv rfl rfl rfl (U_move rfl) rfl rfl ?_
        refine Rsplit (t := 16) rfl (fun hg3 => ?_) (fun hg3 => ?_)
        · rw [hg3]
          have hg3' : 1 ≤ q.2 := of_decide_eq_true hg3
          refine Rv rfl rfl rfl (U_fieldAddrR rfl) rfl rfl ?_
          refine Rv rfl rfl rfl (U_load1 rfl rfl rfl) rfl rfl ?_
          refine Rv rfl rfl rfl (U_leq rfl rfl) rfl rfl ?_
          refine Rv rfl rfl rfl (U_pick_t rfl rfl) rfl rfl ?_
          refine Rv rfl rfl rfl (U_assign rfl) rfl rfl ?_
          refine Re rfl ?_
          exact joinTo id ⟨eD rfl rfl, trivial⟩ trivial rfl rfl rfl rfl (fun _ _ => rfl)
        · rw [hg3]
          have hg3' : ¬ (1 ≤ q.2) := of_decide_eq_false hg3
          refine Rs rfl rfl rfl rfl rfl ?_
          refine Rs rfl rfl rfl rfl rfl ?_
          refine Rs rfl rfl rfl rfl rfl ?_
          refine Rv rfl rfl rfl (U_pick_f rfl rfl) rfl rfl ?_
          refine Rv rfl rfl rfl (U_assign rfl) rfl rfl ?_
          refine Re rfl ?_
          exact joinTo id ⟨eD rfl rfl, trivial⟩ trivial rfl rfl rfl rfl (fun _ _ => rfl)
      · rw [hg2]
        have hg2' : ¬ (q.1 ≤ 8589934592) := of_decide_eq_false hg2
        refine Rs rfl rfl rfl rfl rfl ?_
        refine Rs rfl rfl rfl rfl rfl ?_
        refine Rs rfl rfl rfl rfl rfl ?_
        refine Rv rfl rfl rfl (U_pick_f rfl rfl) rfl rfl ?_
        refine Rv rfl rfl rfl (U_move rfl) rfl rfl ?_
        refine Rs rfl rfl rfl rfl rfl ?_
        refine Rs rfl rfl rfl rfl rfl ?_
        refine Rs rfl rfl rfl rfl rfl ?_
        refine Rv rfl rfl rfl (U_pick_f rfl rfl) rfl rfl ?_
        refine Rv rfl rfl rfl (U_assign rfl) rfl rfl ?_
        refine Re rfl ?_
        exact joinTo id ⟨eD rfl rfl, trivial⟩ trivial rfl rfl rfl rfl (fun _ _ => rfl)
    · rw [hg1]
      have hg1' : ¬ ((-8589934592) ≤ q.1) := of_decide_eq_false hg1
      refine Rs rfl rfl rfl rfl rfl ?_
      refine Rs rfl rfl rfl rfl rfl ?_
      refine Rs rfl rfl rfl rfl rfl ?_
      refine Rv rfl rfl rfl (U_pick_f rfl rfl) rfl rfl ?_
      refine Rv rfl rfl rfl (U_move rfl) rfl rfl ?_
      refine Rs rfl rfl rfl rfl rfl ?_
      refine Rs rfl rfl rfl rfl rfl ?_
      refine Rs rfl rfl rfl rfl rfl ?_
      refine Rv rfl rfl rfl (U_pick_f rfl rfl) rfl rfl ?_
      refine Rv rfl rfl rfl (U_move rfl) rfl rfl ?_
      refine Rs rfl rfl rfl rfl rfl ?_
      refine Rs rfl rfl rfl rfl rfl ?_
      refine Rs rfl rfl rfl rfl rfl ?_
      refine Rv rfl rfl rfl (U_pick_f rfl rfl) rfl rfl ?_
      refine Rv rfl rfl rfl (U_assign rfl) rfl rfl ?_
      refine Re rfl ?_
      exact joinTo id ⟨eD rfl rfl, trivial⟩ trivial rfl rfl rfl rfl (fun _ _ => rfl)
  refine thenQ_n ?_
  refine W_ret rfl ?_
  exact retL (rlT rfl rl0) (by first | rfl | (simp only [packA]; congr 1; rw [Bool.eq_iff_iff]; simp [isFrB, inL]; omega; first | done | rfl)) rfl
theorem isPairR_p (s : Star) (c : Option Nat) (a b : Int) : Pure Try.prog 76 [starA s c, i64 a, i64 b] (.bool (isPairB s.es.length (a, b))) := by
  refine pure_of_body Try.func76 (c := body Try.f76) rfl (by simp [Try.ntmps76]) fun w0 Φ0 => ?_
  refine W_seq rfl ?_
  refine W_reg rfl ?_
  refine Rv rfl rfl rfl (U_boxF rfl rfl rfl) rfl rfl ?_
  refine Rv rfl rfl rfl (U_assign rfl) rfl rfl ?_
  refine Re rfl ?_
  refine thenQ_n ?_
  refine W_seq rfl ?_
  refine Wjoin ⟨[(6, .bool (bif (decide (a = (-1))) then ((decide (b = (-1))) || ((decide (0 ≤ a)) && ((decide (a < b)) && (decide (b < ((s.es.length : Nat) : Int)))))) else ((decide (0 ≤ a)) && ((decide (a < b)) && (decide (b < ((s.es.length : Nat) : Int)))))))], [], 0, []⟩ ?_ ?_
  · refine W_reg rfl ?_
    refine Rv rfl rfl rfl (U_move rfl) rfl rfl ?_
    refine Rv rfl rfl rfl (U_eql rfl rfl) rfl rfl ?_
    refine Rv rfl rfl rfl (U_move rfl) rfl rfl ?_
    refine Rsplit (t := 9) rfl (fun hg1 => ?_) (fun hg1 => ?_)
    · rw [hg1]
      have hg1' : a = (-1) := of_decide_eq_true hg1
      refine Rv rfl rfl rfl (U_move rfl) rfl rfl ?_
      refine Rv rfl rfl rfl (U_eql rfl rfl) rfl rfl ?_
      refine Rv rfl rfl rfl (U_pick_t rfl rfl) rfl rfl ?_
      refine Rv rfl rfl rfl (U_move rfl) rfl rfl ?_
      refine Rsplit (t := 13) rfl (fun hg2 => ?_) (fun hg2 => ?_)
      · rw [hg2]
        have hg2' : b = (-1) := of_decide_eq_true hg2
        refine Rs rfl rfl rfl rfl rfl ?_
        refine Rs rfl rfl rfl rfl rfl ?_
        refine Rs rfl rfl rfl rfl rfl ?_
        refine Rs rfl rfl rfl rfl rfl ?_
        refine Rs rfl rfl rfl rfl rfl ?_
        refine Rs rfl rfl rfl rfl rfl ?_
        refine Rs rfl rfl rfl rfl rfl ?_
        refine Rs rfl rfl rfl rfl rfl ?_
        refine Rs rfl rfl rfl rfl rfl ?_
        refine Rs rfl rfl rfl rfl rfl ?_
        refine Rs rfl rfl rfl rfl rfl ?_
        refine Rs rfl rfl rfl rfl rfl ?_
        refine Rs rfl rfl rfl rfl rfl ?_
        refine Rs rfl rfl rfl rfl rfl ?_
        refine Rv rfl rfl rfl (U_pick_t rfl rfl) rfl rfl ?_
        refine Rv rfl rfl rfl (U_assign rfl) rfl rfl ?_
        refine Re rfl ?_
        exact joinTo id ⟨eD rfl rfl, trivial⟩ trivial rfl rfl rfl rfl (fun _ _ => rfl)
      · rw [hg2]
        have hg2' : ¬ (b = (-1)) := of_decide_eq_false hg2
        refine Rv rfl rfl rfl (U_move rfl) rfl rfl ?_
        refine Rv rfl rfl rfl (U_geq rfl rfl) rfl rfl ?_
        refine Rv rfl rfl rfl (U_move rfl) rfl rfl ?_
        refine Rsplit (t := 16) rfl (fun hg3 => ?_) (fun hg3 => ?_)
        · rw [hg3]
          have hg3' : 0 ≤ a := of_decide_eq_true hg3
          refine Rv rfl rfl rfl (U_move rfl) rfl rfl ?_
          refine Rv rfl rfl rfl (U_move rfl) rfl rfl ?_
          refine Rv rfl rfl rfl (U_lss rfl rfl) rfl rfl ?_
          refine Rv rfl rfl rfl (U_pick_t rfl rfl) rfl rfl ?_
          refine Rv rfl rfl rfl (U_move rfl) rfl rfl ?_
          refine Rsplit (t := 21) rfl (fun hg4 => ?_) (fun hg4 => ?_)
          · rw [hg4]
            have hg4' : a < b := of_decide_eq_true hg4
            refine Rv rfl rfl rfl (U_move rfl) rfl rfl ?_
            refine Rv rfl rfl rfl (U_fieldAddrR rfl) rfl rfl ?_
            refine Rv rfl rfl rfl (U_load1 rfl rfl rfl) rfl rfl ?_
            refine Rv rfl rfl rfl (U_lenOf rfl len_ros) rfl rfl ?_
            refine Rv rfl rfl rfl (U_lss rfl rfl) rfl rfl ?_
            refine Rv rfl rfl rfl (U_pick_t rfl rfl) rfl rfl ?_
            refine Rv rfl rfl rfl (U_pick_f rfl rfl) rfl rfl ?_
            refine Rv rfl rfl rfl (U_assign rfl) rfl rfl ?_
            refine Re rfl ?_
            exact joinTo id ⟨eD rfl rfl, trivial⟩ trivial rfl rfl rfl rfl (fun _ _ => rfl)
          · rw [hg4]
            have hg4' : ¬ (a < b) := of_decide_eq_false hg4
            refine Rs rfl rfl rfl rfl rfl ?_
            refine Rs rfl rfl rfl rfl rfl ?_
            refine Rs rfl rfl rfl rfl rfl ?_
            refine Rs rfl rfl rfl rfl rfl ?_
            refine Rs rfl rfl rfl rfl rfl ?_
            refine Rv rfl rfl rfl (U_pick_f rfl rfl) rfl rfl ?_
            refine Rv rfl rfl rfl (U_pick_f rfl rfl) rfl rfl ?_
            refine Rv rfl rfl rfl (U_assign rfl) rfl rfl ?_
            refine Re rfl ?_
            exact joinTo id ⟨eD rfl rfl, trivial⟩ trivial rfl rfl rfl rfl (fun _ _ => rfl)
        · rw [hg3]
          have hg3' : ¬ (0 ≤ a) := of_decide_eq_false hg3
          refine Rs rfl rfl rfl rfl rfl ?_
          refine Rs rfl rfl rfl rfl rfl ?_
          refine Rs rfl rfl rfl rfl rfl ?_
          refine Rv rfl rfl rfl (U_pick_f rfl rfl) rfl rfl ?_
          refine Rv rfl rfl rfl (U_move rfl) rfl rfl ?_
          refine Rs rfl rfl rfl rfl rfl ?_
          refine Rs rfl rfl rfl rfl rfl ?_
          refine Rs rfl rfl rfl rfl rfl ?_
          refine Rs rfl rfl rfl rfl rfl ?_
          refine Rs rfl rfl rfl rfl rfl ?_
          refine Rv rfl rfl rfl (U_pick_f rfl rfl) rfl rfl ?_
          refine Rv rfl rfl rfl (U_pick_f rfl rfl) rfl rfl ?_
          refine Rv rfl rfl rfl (U_assign rfl) rfl rfl ?_
          refine Re rfl ?_
          exact joinTo id ⟨eD rfl rfl, trivial⟩ trivial rfl rfl rfl rfl (fun _ _ => rfl)
    · rw [hg1]
      have hg1' : ¬ (a = (-1)) := of_decide_eq_false hg1
      refine Rs rfl rfl rfl rfl rfl ?_
      refine Rs rfl rfl rfl rfl rfl ?_
      refine Rv rfl rfl rfl (U_pick_f rfl rfl) rfl rfl ?_
      refine Rv rfl rfl rfl (U_move rfl) rfl rfl ?_
      refine Rv rfl rfl rfl (U_move rfl) rfl rfl ?_
      refine Rv rfl rfl rfl (U_geq rfl rfl) rfl rfl ?_
      refine Rv rfl rfl rfl (U_move rfl) rfl rfl ?_
      refine Rsplit (t := 16) rfl (fun hg5 => ?_) (fun hg5 => ?_)
      · rw [hg5]
        have hg5' : 0 ≤ a := of_decide_eq_true hg5
        refine Rv rfl rfl rfl (U_move rfl) rfl rfl ?_
        refine Rv rfl rfl rfl (U_move rfl) rfl rfl ?_
        refine Rv rfl rfl rfl (U_lss rfl rfl) rfl rfl ?_
        refine Rv rfl rfl rfl (U_pick_t rfl rfl) rfl rfl ?_
        refine Rv rfl rfl rfl (U_move rfl) rfl rfl ?_
        refine Rsplit (t := 21) rfl (fun hg6 => ?_) (fun hg6 => ?_)
        · rw [hg6]
          have hg6' : a < b := of_decide_eq_true hg6
          refine Rv rfl rfl rfl (U_move rfl) rfl rfl ?_
          refine Rv rfl rfl rfl (U_fieldAddrR rfl) rfl rfl ?_
          refine Rv rfl rfl rfl (U_load1 rfl rfl rfl) rfl rfl ?_
          refine Rv rfl rfl rfl (U_lenOf rfl len_ros) rfl rfl ?_
          refine Rv rfl rfl rfl (U_lss rfl rfl) rfl rfl ?_
          refine Rv rfl rfl rfl (U_pick_t rfl rfl) rfl rfl ?_
          refine Rv rfl rfl rfl (U_pick_f rfl rfl) rfl rfl ?_
          refine Rv rfl rfl rfl (U_assign rfl) rfl rfl ?_
          refine Re rfl ?_
          exact joinTo id ⟨eD rfl rfl, trivial⟩ trivial rfl rfl rfl rfl (fun _ _ => rfl)
        · rw [hg6]
          have hg6' : ¬ (a < b) := of_decide_eq_false hg6
          refine Rs rfl rfl rfl rfl rfl ?_
          refine Rs rfl rfl rfl rfl rfl ?_
          refine Rs rfl rfl rfl rfl rfl ?_
          refine Rs rfl rfl rfl rfl rfl ?_
          refine Rs rfl rfl rfl rfl rfl ?_
          refine Rv rfl rfl rfl (U_pick_f rfl rfl) rfl rfl ?_
          refine Rv rfl rfl rfl (U_pick_f rfl rfl) rfl rfl ?_
          refine Rv rfl rfl rfl (U_assign rfl) rfl rfl ?_
          refine Re rfl ?_
          exact joinTo id ⟨eD rfl rfl, trivial⟩ trivial rfl rfl rfl rfl (fun _ _ => rfl)
      · rw [hg5]
        have hg5' : ¬ (0 ≤ a) := of_decide_eq_false hg5
        refine Rs rfl rfl rfl rfl rfl ?_
        refine Rs rfl rfl rfl rfl rfl ?_
        refine Rs rfl rfl rfl rfl rfl ?_
        refine Rv rfl rfl rfl (U_pick_f rfl rfl) rfl rfl ?_
        refine Rv rfl rfl rfl (U_move rfl) rfl rfl ?_
        refine Rs rfl rfl rfl rfl rfl ?_
        refine Rs rfl rfl rfl rfl rfl ?_
        refine Rs rfl rfl rfl rfl rfl ?_
        refine Rs rfl rfl rfl rfl rfl ?_
        refine Rs rfl rfl rfl rfl rfl ?_
        refine Rv rfl rfl rfl (U_pick_f rfl rfl) rfl rfl ?_
        refine Rv rfl rfl rfl (U_pick_f rfl rfl) rfl rfl ?_
        refine Rv rfl rfl rfl (U_assign rfl) rfl rfl ?_
        refine Re rfl ?_
        exact joinTo id ⟨eD rfl rfl, trivial⟩ trivial rfl rfl rfl rfl (fun _ _ => rfl)
  refine thenQ_n ?_
  refine W_ret rfl ?_
  exact retL (rlT rfl rl0) (by first | rfl | (simp only [packA]; congr 1; rw [Bool.eq_iff_iff]; simp [isPairB]; split <;> omega; first | done | rfl)) rfl
theorem allB_true {α : Type} {p : α → Bool} {l : List α} (h : ∀ j (hj : j < l.length), p l[j] = true) : l.all p = true := by
  rw [List.all_eq_true]; intro x hx; obtain ⟨j, hj, rfl⟩ := List.getElem_of_mem hx; exact h j hj
theorem allB_false {α : Type} {p : α → Bool} {l : List α} {j : Nat} (hj : j < l.length) (h : p l[j] = false) : l.all p = false := by
  rw [List.all_eq_false]; exact ⟨_, List.getElem_mem hj, by rw [h]; simp⟩
theorem ag_eq (p v : Int × Int) (e : Ent) : agE p v e = !(decide (p.1 * v.2 + v.1 * e.y * p.2 < e.lo * p.2 * v.2) || decide (e.hi * p.2 * v.2 < p.1 * v.2 + v.1 * e.y * p.2)) := by
  rw [Bool.eq_iff_iff]; simp [agE, inL, Int.mul_assoc]
theorem chkM_eq {s : Star} {p v : Int × Int} : chkM s p v = if chkS s = 0 then (if (isFrB p && isFrB v) = true then (if agB s p v = true then 0 else 17) else 3) else chkS s := by
  unfold chkM
  split
  · have e1 : (!inL (-8589934592) 8589934592 [p.1, v.1] || !inL 1 40000 [p.2, v.2]) = !(isFrB p && isFrB v) := by
      rw [Bool.eq_iff_iff]; simp [isFrB, inL]; omega
    rw [e1]
    cases hf : (isFrB p && isFrB v)
    · simp
    · simp only [Bool.not_true, Bool.false_eq_true, if_false, if_true, agB]
      by_cases hx : inL (s.lo * v.2) (s.hi * v.2) [v.1] = true <;> simp [hx]
  · rfl
theorem agrees_p (s : Star) (c : Option Nat) (hg : Good s) (p v : Int × Int) (hp : isFrB p = true) (hv : isFrB v = true) : Pure Try.prog 72 [starA s c, motA p v] (.bool (agB s p v)) := by
  simp only [isFrB, inL, List.all_cons, List.all_nil, Bool.and_true, Bool.and_eq_true, decide_eq_true_eq] at hp hv
  have hlen := hg.len
  have hglo := hg.lo
  have hghi := hg.hi
  have n1 := mulB (a := s.lo) (b := v.2) (A := 1000) (B := 40000) (by omega) (by omega) (by omega) (by omega)
  have n2 := mulB (a := s.hi) (b := v.2) (A := 1000) (B := 40000) (by omega) (by omega) (by omega) (by omega)
  refine pure_of_body Try.func72 (c := body Try.f72) rfl (by simp [Try.ntmps72]) fun w0 Φ0 => ?_
  refine W_seq rfl ?_
  refine W_reg rfl ?_
  refine Rv rfl rfl rfl (U_boxF rfl rfl rfl) rfl rfl ?_
  refine Rv rfl rfl rfl (U_boxF rfl rfl rfl) rfl rfl ?_
  refine Rv rfl rfl rfl (U_assign rfl) rfl rfl ?_
  refine Re rfl ?_
  refine thenQ_n ?_
  refine W_seq rfl ?_
  refine WdrawL [11, 13] rfl (by kernel_rfl) (by kernel_rfl) ?_
  refine Dv rfl rfl rfl (U_fieldAddrR rfl) rfl rfl ?_
  refine Dv rfl rfl rfl (U_load2 rfl rfl rfl rfl) rfl rfl ?_
  refine Dv rfl rfl rfl (U_fieldAddrR rfl) rfl rfl ?_
  refine Dv rfl rfl rfl (U_load2 rfl rfl rfl rfl) rfl rfl ?_
  refine Da rfl rfl rfl (U_alloc) rfl rfl rfl rfl ?_
  refine Da rfl rfl rfl (U_alloc) rfl rfl rfl rfl ?_
  refine Dn_ rfl rfl rfl (U_storeAll rfl rfl rfl rfl rfl rfl) rfl rfl ?_
  refine Dn_ rfl rfl rfl (U_storeAll rfl rfl rfl rfl rfl rfl) rfl rfl ?_
  refine Dr.nil rfl ?_
  refine thenQ_n ?_
  refine WfrN 0 rfl rfl (T' := [(2, .rop [i64 s.lo, i64 s.hi, .ros (s.es.flatMap entC) s.es.length c] 0), (5, .rop [i64 p.1, i64 p.2] 0), (6, .ptr 1 0)]) (H' := [(1, some (.cells [i64 v.1, i64 v.2] 28))]) ⟨⟨_, rfl, rfl⟩, ⟨_, rfl, rfl⟩, ⟨_, rfl, rfl⟩, trivial⟩ ⟨⟨rfl, rF rfl rfl⟩, trivial⟩ ?_
  refine WfrN 1 rfl rfl (T' := [(2, .rop [i64 s.lo, i64 s.hi, .ros (s.es.flatMap entC) s.es.length c] 0), (5, .rop [i64 p.1, i64 p.2] 0), (6, .rop [i64 v.1, i64 v.2] 0)]) (H' := []) ⟨⟨_, rfl, rfl⟩, ⟨_, rfl, rfl⟩, ⟨_, rfl, rfl⟩, trivial⟩ trivial ?_
  refine W_seq rfl ?_
  refine W_seq rfl ?_
  refine Wjoin ⟨[(2, .rop [i64 s.lo, i64 s.hi, .ros (s.es.flatMap entC) s.es.length c] 0), (5, .rop [i64 p.1, i64 p.2] 0), (6, .rop [i64 v.1, i64 v.2] 0), (33, .bool ((decide (v.1 < (s.lo * v.2))) || (decide ((s.hi * v.2) < v.1))))], [], 0, []⟩ ?_ ?_
  · refine W_reg rfl ?_
    refine Rv rfl rfl rfl (U_fieldAddrR rfl) rfl rfl ?_
    refine Rv rfl rfl rfl (U_load1 rfl rfl rfl) rfl rfl ?_
    refine Rv rfl rfl rfl (U_fieldAddrR rfl) rfl rfl ?_
    refine Rv rfl rfl rfl (U_fieldAddrR rfl) rfl rfl ?_
    refine Rv rfl rfl rfl (U_load1 rfl rfl rfl) rfl rfl ?_
    refine Rv rfl rfl rfl (U_fieldAddrR rfl) rfl rfl ?_
    refine Rv rfl rfl rfl (U_load1 rfl rfl rfl) rfl rfl ?_
    refine Rv rfl rfl rfl (U_mul rfl rfl (w64 (by omega) (by omega))) rfl rfl ?_
    refine Rv rfl rfl rfl (U_lss rfl rfl) rfl rfl ?_
    refine Rv rfl rfl rfl (U_move rfl) rfl rfl ?_
    refine Rsplit (t := 23) rfl (fun hg1 => ?_) (fun hg1 => ?_)
    · rw [hg1]
      have hg1' : v.1 < (s.lo * v.2) := of_decide_eq_true hg1
      refine Rs rfl rfl rfl rfl rfl ?_
      refine Rs rfl rfl rfl rfl rfl ?_
      refine Rs rfl rfl rfl rfl rfl ?_
      refine Rs rfl rfl rfl rfl rfl ?_
      refine Rs rfl rfl rfl rfl rfl ?_
      refine Rs rfl rfl rfl rfl rfl ?_
      refine Rs rfl rfl rfl rfl rfl ?_
      refine Rs rfl rfl rfl rfl rfl ?_
      refine Rs rfl rfl rfl rfl rfl ?_
      refine Rv rfl rfl rfl (U_pick_t rfl rfl) rfl rfl ?_
      refine Re rfl ?_
      exact joinTo id ⟨eD rfl rfl, eD rfl rfl, eD rfl rfl, eD rfl rfl, trivial⟩ trivial rfl rfl rfl rfl (fun _ _ => rfl)
    · rw [hg1]
      have hg1' : ¬ (v.1 < (s.lo * v.2)) := of_decide_eq_false hg1
      refine Rv rfl rfl rfl (U_fieldAddrR rfl) rfl rfl ?_
      refine Rv rfl rfl rfl (U_load1 rfl rfl rfl) rfl rfl ?_
      refine Rv rfl rfl rfl (U_fieldAddrR rfl) rfl rfl ?_
      refine Rv rfl rfl rfl (U_fieldAddrR rfl) rfl rfl ?_
      refine Rv rfl rfl rfl (U_load1 rfl rfl rfl) rfl rfl ?_
      refine Rv rfl rfl rfl (U_fieldAddrR rfl) rfl rfl ?_
      refine Rv rfl rfl rfl (U_load1 rfl rfl rfl) rfl rfl ?_
      refine Rv rfl rfl rfl (U_mul rfl rfl (w64 (by omega) (by omega))) rfl rfl ?_
      refine Rv rfl rfl rfl (U_gtr rfl rfl) rfl rfl ?_
      refine Rv rfl rfl rfl (U_pick_f rfl rfl) rfl rfl ?_
      refine Re rfl ?_
      exact joinTo id ⟨eD rfl rfl, eD rfl rfl, eD rfl rfl, eD rfl rfl, trivial⟩ trivial rfl rfl rfl rfl (fun _ _ => rfl)
  refine thenQ_n ?_
  refine Wcond rfl rfl (fun hc0 => ?_) (fun hc0 => ?_)
  · refine W_seq rfl ?_
    refine W_reg rfl ?_
    refine Rv rfl rfl rfl (U_assign rfl) rfl rfl ?_
    refine Re rfl ?_
    refine thenQ_n ?_
    refine W_ret rfl ?_
    refine thenQ_r ?_
    exact retL (rlT rfl rl0) (by first | rfl | (simp only [packA]; rw [agB, show inL (s.lo * v.2) (s.hi * v.2) [v.1] = false by (simp at hc0; simp [inL]; omega)]; rfl; first | done | rfl) | (simp only [packA]; rw [agB, allB_false hck (by rw [ag_eq, hc2]; rfl), Bool.and_false]; first | done | rfl) | (simp only [packA]; rw [agB, hall, show inL (s.lo * v.2) (s.hi * v.2) [v.1] = true by (simp at hc0; simp [inL]; omega)]; rfl; first | done | rfl)) rfl
  · have hc0' := Bool.eq_false_iff.1 hc0
    refine W_skip rfl ?_
    refine thenQ_n ?_
    refine W_seq rfl ?_
    refine W_seq rfl ?_
    refine W_reg rfl ?_
    refine Rv rfl rfl rfl (U_assign rfl) rfl rfl ?_
    refine Re rfl ?_
    refine thenQ_n ?_
    refine W_block rfl ?_
    refine LoopTo (T' := [(2, .rop [i64 s.lo, i64 s.hi, .ros (s.es.flatMap entC) s.es.length c] 0), (5, .rop [i64 p.1, i64 p.2] 0), (6, .rop [i64 v.1, i64 v.2] 0), (7, i64 ((0 : Nat) : Int))]) (H' := []) (n := 0) rfl (fun mz_ qz_ => ∃ (k : Nat), k ≤ s.es.length ∧ (∀ j (hj : j < s.es.length), j < k → agE p v s.es[j] = true) ∧ mz_ = s.es.length - k ∧ qz_ = ⟨[(2, .rop [i64 s.lo, i64 s.hi, .ros (s.es.flatMap entC) s.es.length c] 0), (5, .rop [i64 p.1, i64 p.2] 0), (6, .rop [i64 v.1, i64 v.2] 0), (7, i64 ((k : Nat) : Int))], [], 0, []⟩) ⟨0, (by omega), (fun j hj h => absurd h (Nat.not_lt_zero _)), rfl, rfl⟩ id ⟨eD rfl rfl, eD rfl rfl, eD rfl rfl, eD rfl rfl, trivial⟩ trivial rfl rfl rfl rfl (fun _ _ => rfl) ?_
    rintro _ _ ⟨k, hi0_0, hi0_1, rfl, rfl⟩
    refine W_seq rfl ?_
    refine W_seq rfl ?_
    refine W_reg rfl ?_
    refine Rv rfl rfl rfl (U_move rfl) rfl rfl ?_
    refine Rv rfl rfl rfl (U_fieldAddrR rfl) rfl rfl ?_
    refine Rv rfl rfl rfl (U_load1 rfl rfl rfl) rfl rfl ?_
    refine Rv rfl rfl rfl (U_lenOf rfl len_ros) rfl rfl ?_
    refine Rv rfl rfl rfl (U_lss rfl rfl) rfl rfl ?_
    refine Re rfl ?_
    refine thenQ_n ?_
    refine WcondP rfl rfl (fun hc1 => ?_) (fun hc1 => ?_)
    · have hck : k < s.es.length := by omega
      have he := hg.es k hck
      have m1 := mulB (a := p.1) (b := v.2) (A := 8589934592) (B := 40000) (by omega) (by omega) (by omega) (by omega)
      have m2 := mulB (a := v.1) (b := s.es[k].y) (A := 8589934592) (B := 200) (by omega) (by omega) (by omega) (by omega)
      have m3 := mulB (a := v.1 * s.es[k].y) (b := p.2) (A := 1717986918400) (B := 40000) (by omega) (by omega) (by omega) (by omega)
      have m4 := mulB (a := s.es[k].lo) (b := p.2) (A := 10000) (B := 40000) (by omega) (by omega) (by omega) (by omega)
      have m5 := mulB (a := s.es[k].lo * p.2) (b := v.2) (A := 400000000) (B := 40000) (by omega) (by omega) (by omega) (by omega)
      have m6 := mulB (a := s.es[k].hi) (b := p.2) (A := 10000) (B := 40000) (by omega) (by omega) (by omega) (by omega)
      have m7 := mulB (a := s.es[k].hi * p.2) (b := v.2) (A := 400000000) (B := 40000) (by omega) (by omega) (by omega) (by omega)
      refine W_skip rfl ?_
      refine thenQ_n ?_
      refine W_seq rfl ?_
      refine W_block rfl ?_
      refine W_seq rfl ?_
      refine W_reg rfl ?_
      refine Rv rfl rfl rfl (U_fieldAddrR rfl) rfl rfl ?_
      refine Rv rfl rfl rfl (U_load1 rfl rfl rfl) rfl rfl ?_
      refine Rv rfl rfl rfl (U_move rfl) rfl rfl ?_
      have hx2 : k < s.es.length := by omega
      refine Rv rfl rfl rfl (U_indexR (j := k) rfl rfl rfl hx2) rfl rfl ?_
      refine Rv rfl rfl rfl (U_load3 rfl rfl (ent0 hx2) (ent1 hx2) (ent2 hx2)) rfl rfl ?_
      refine Ra rfl rfl rfl (U_alloc) rfl rfl rfl ?_
      refine Rn rfl rfl rfl (U_storeAll rfl rfl rfl rfl rfl rfl) rfl ?_
      refine Re rfl ?_
      refine thenQ_n ?_
      refine WfrN 0 rfl rfl (T' := [(2, .rop [i64 s.lo, i64 s.hi, .ros (s.es.flatMap entC) s.es.length c] 0), (5, .rop [i64 p.1, i64 p.2] 0), (6, .rop [i64 v.1, i64 v.2] 0), (7, i64 ((k : Nat) : Int)), (8, .rop [i64 s.es[k].y, i64 s.es[k].lo, i64 s.es[k].hi] 0)]) (H' := []) ⟨⟨_, rfl, rfl⟩, ⟨_, rfl, rfl⟩, ⟨_, rfl, rfl⟩, ⟨_, rfl, rfl⟩, ⟨_, rfl, rfl⟩, trivial⟩ trivial ?_
      refine W_seq rfl ?_
      refine W_reg rfl ?_
      refine Rv rfl rfl rfl (U_fieldAddrR rfl) rfl rfl ?_
      refine Rv rfl rfl rfl (U_load1 rfl rfl rfl) rfl rfl ?_
      refine Rv rfl rfl rfl (U_fieldAddrR rfl) rfl rfl ?_
      refine Rv rfl rfl rfl (U_load1 rfl rfl rfl) rfl rfl ?_
      refine Rv rfl rfl rfl (U_mul rfl rfl (w64 (by omega) (by omega))) rfl rfl ?_
      refine Rv rfl rfl rfl (U_fieldAddrR rfl) rfl rfl ?_
      refine Rv rfl rfl rfl (U_load1 rfl rfl rfl) rfl rfl ?_
      refine Rv rfl rfl rfl (U_fieldAddrR rfl) rfl rfl ?_
      refine Rv rfl rfl rfl (U_load1 rfl rfl rfl) rfl rfl ?_
      refine Rv rfl rfl rfl (U_mul rfl rfl (w64 (by omega) (by omega))) rfl rfl ?_
      refine Rv rfl rfl rfl (U_fieldAddrR rfl) rfl rfl ?_
      refine Rv rfl rfl rfl (U_load1 rfl rfl rfl) rfl rfl ?_
      refine Rv rfl rfl rfl (U_mul rfl rfl (w64 (by omega) (by omega))) rfl rfl ?_
      refine Rv rfl rfl rfl (U_add rfl rfl (w64 (by omega) (by omega))) rfl rfl ?_
      refine Rv rfl rfl rfl (U_assign rfl) rfl rfl ?_
      refine Re rfl ?_
      refine thenQ_n ?_
      refine W_seq rfl ?_
      refine Wjoin ⟨[(2, .rop [i64 s.lo, i64 s.hi, .ros (s.es.flatMap entC) s.es.length c] 0), (5, .rop [i64 p.1, i64 p.2] 0), (6, .rop [i64 v.1, i64 v.2] 0), (7, i64 ((k : Nat) : Int)), (83, .bool ((decide (((p.1 * v.2) + ((v.1 * s.es[k].y) * p.2)) < ((s.es[k].lo * p.2) * v.2))) || (decide (((s.es[k].hi * p.2) * v.2) < ((p.1 * v.2) + ((v.1 * s.es[k].y) * p.2))))))], [], 0, []⟩ ?_ ?_
      · refine W_reg rfl ?_
        refine Rv rfl rfl rfl (U_move rfl) rfl rfl ?_
        refine Rv rfl rfl rfl (U_fieldAddrR rfl) rfl rfl ?_
        refine Rv rfl rfl rfl (U_fieldAddrR rfl) rfl rfl ?_
        refine Rv rfl rfl rfl (U_load1 rfl rfl rfl) rfl rfl ?_
        refine Rv rfl rfl rfl (U_fieldAddrR rfl) rfl rfl ?_
        refine Rv rfl rfl rfl (U_load1 rfl rfl rfl) rfl rfl ?_
        refine Rv rfl rfl rfl (U_mul rfl rfl (w64 (by omega) (by omega))) rfl rfl ?_
        refine Rv rfl rfl rfl (U_fieldAddrR rfl) rfl rfl ?_
        refine Rv rfl rfl rfl (U_load1 rfl rfl rfl) rfl rfl ?_
        refine Rv rfl rfl rfl (U_mul rfl rfl (w64 (by omega) (by omega))) rfl rfl ?_
        refine Rv rfl rfl rfl (U_lss rfl rfl) rfl rfl ?_
        refine Rv rfl rfl rfl (U_move rfl) rfl rfl ?_
        refine Rsplit (t := 71) rfl (fun hg3 => ?_) (fun hg3 => ?_)
        · rw [hg3]
          have hg3' : ((p.1 * v.2) + ((v.1 * s.es[k].y) * p.2)) < ((s.es[k].lo * p.2) * v.2) := of_decide_eq_true hg3
          refine Rs rfl rfl rfl rfl rfl ?_
          refine Rs rfl rfl rfl rfl rfl ?_
          refine Rs rfl rfl rfl rfl rfl ?_
          refine Rs rfl rfl rfl rfl rfl ?_
          refine Rs rfl rfl rfl rfl rfl ?_
          refine Rs rfl rfl rfl rfl rfl ?_
          refine Rs rfl rfl rfl rfl rfl ?_
          refine Rs rfl rfl rfl rfl rfl ?_
          refine Rs rfl rfl rfl rfl rfl ?_
          refine Rs rfl rfl rfl rfl rfl ?_
          refine Rs rfl rfl rfl rfl rfl ?_
          refine Rv rfl rfl rfl (U_pick_t rfl rfl) rfl rfl ?_
          refine Re rfl ?_
          exact joinTo id ⟨eD rfl rfl, eD rfl rfl, eD rfl rfl, eD rfl rfl, eD rfl rfl, trivial⟩ trivial rfl rfl rfl rfl (fun _ _ => rfl)
        · rw [hg3]
          have hg3' : ¬ (((p.1 * v.2) + ((v.1 * s.es[k].y) * p.2)) < ((s.es[k].lo * p.2) * v.2)) := of_decide_eq_false hg3
          refine Rv rfl rfl rfl (U_move rfl) rfl rfl ?_
          refine Rv rfl rfl rfl (U_fieldAddrR rfl) rfl rfl ?_
          refine Rv rfl rfl rfl (U_fieldAddrR rfl) rfl rfl ?_
          refine Rv rfl rfl rfl (U_load1 rfl rfl rfl) rfl rfl ?_
          refine Rv rfl rfl rfl (U_fieldAddrR rfl) rfl rfl ?_
          refine Rv rfl rfl rfl (U_load1 rfl rfl rfl) rfl rfl ?_
          refine Rv rfl rfl rfl (U_mul rfl rfl (w64 (by omega) (by omega))) rfl rfl ?_
          refine Rv rfl rfl rfl (U_fieldAddrR rfl) rfl rfl ?_
          refine Rv rfl rfl rfl (U_load1 rfl rfl rfl) rfl rfl ?_
          refine Rv rfl rfl rfl (U_mul rfl rfl (w64 (by omega) (by omega))) rfl rfl ?_
          refine Rv rfl rfl rfl (U_gtr rfl rfl) rfl rfl ?_
          refine Rv rfl rfl rfl (U_pick_f rfl rfl) rfl rfl ?_
          refine Re rfl ?_
          exact joinTo id ⟨eD rfl rfl, eD rfl rfl, eD rfl rfl, eD rfl rfl, eD rfl rfl, trivial⟩ trivial rfl rfl rfl rfl (fun _ _ => rfl)
      refine thenQ_n ?_
      refine Wcond rfl rfl (fun hc2 => ?_) (fun hc2 => ?_)
      · refine W_seq rfl ?_
        refine W_reg rfl ?_
        refine Rv rfl rfl rfl (U_assign rfl) rfl rfl ?_
        refine Re rfl ?_
        refine thenQ_n ?_
        refine W_ret rfl ?_
        refine blkQ_r ?_
        refine thenQ_r ?_
        refine thenQ_r ?_
        refine blkQ_r ?_
        refine thenQ_r ?_
        exact retL (rlT rfl rl0) (by first | rfl | (simp only [packA]; rw [agB, show inL (s.lo * v.2) (s.hi * v.2) [v.1] = false by (simp at hc0; simp [inL]; omega)]; rfl; first | done | rfl) | (simp only [packA]; rw [agB, allB_false hck (by rw [ag_eq, hc2]; rfl), Bool.and_false]; first | done | rfl) | (simp only [packA]; rw [agB, hall, show inL (s.lo * v.2) (s.hi * v.2) [v.1] = true by (simp at hc0; simp [inL]; omega)]; rfl; first | done | rfl)) rfl
      · have hc2' := Bool.eq_false_iff.1 hc2
        refine W_skip rfl ?_
        refine blkQ_n ?_
        refine thenQ_n ?_
        refine W_reg rfl ?_
        refine Rv rfl rfl rfl (U_move rfl) rfl rfl ?_
        refine Rv rfl rfl rfl (U_add rfl rfl (w64e (m := ((k + 1 : Nat) : Int)) (by omega) (by omega) (by omega))) rfl rfl ?_
        refine Rv rfl rfl rfl (U_assign rfl) rfl rfl ?_
        refine Re rfl ?_
        refine thenQ_n ?_
        exact againTo (T' := [(2, .rop [i64 s.lo, i64 s.hi, .ros (s.es.flatMap entC) s.es.length c] 0), (5, .rop [i64 p.1, i64 p.2] 0), (6, .rop [i64 v.1, i64 v.2] 0), (7, i64 (((k + 1) : Nat) : Int))]) (H' := []) (n := 0) (s.es.length - (k + 1)) ⟨k + 1, (by omega), (by intro j hj h; rcases Nat.lt_succ_iff_lt_or_eq.1 h with h | rfl; exact hi0_1 j hj h; rw [ag_eq, hc2]; rfl), rfl, rfl⟩ (by omega) id ⟨eD rfl rfl, eD rfl rfl, eD rfl rfl, eD rfl rfl, trivial⟩ trivial rfl rfl rfl rfl (fun _ _ => rfl)
    · have hall := allB_true (p := agE p v) (l := s.es) fun j hj => hi0_1 j hj (by omega)
      refine W_exit rfl ?_
      refine thenQ_x ?_
      refine thenQ_x ?_
      refine blkQ_x rfl ?_
      refine thenQ_n ?_
      refine W_seq rfl ?_
      refine W_reg rfl ?_
      refine Rv rfl rfl rfl (U_assign rfl) rfl rfl ?_
      refine Re rfl ?_
      refine thenQ_n ?_
      refine W_ret rfl ?_
      exact retL (rlT rfl rl0) (by first | rfl | (simp only [packA]; rw [agB, show inL (s.lo * v.2) (s.hi * v.2) [v.1] = false by (simp at hc0; simp [inL]; omega)]; rfl; first | done | rfl) | (simp only [packA]; rw [agB, allB_false hck (by rw [ag_eq, hc2]; rfl), Bool.and_false]; first | done | rfl) | (simp only [packA]; rw [agB, hall, show inL (s.lo * v.2) (s.hi * v.2) [v.1] = true by (simp at hc0; simp [inL]; omega)]; rfl; first | done | rfl)) rfl
theorem checkMotionR_p (s : Star) (c : Option Nat) (hl : s.es.length ≤ 1000) (p v : Int × Int) : Pure Try.prog 22 [starA s c, motA p v] (i64 (chkM s p v)) := by
  refine pure_of_body Try.func22 (c := body Try.f22) rfl (by simp [Try.ntmps22]) fun w0 Φ0 => ?_
  refine W_seq rfl ?_
  refine W_reg rfl ?_
  refine Rv rfl rfl rfl (U_boxF rfl rfl rfl) rfl rfl ?_
  refine Rv rfl rfl rfl (U_boxF rfl rfl rfl) rfl rfl ?_
  refine Rv rfl rfl rfl (U_assign rfl) rfl rfl ?_
  refine Re rfl ?_
  refine thenQ_n ?_
  refine W_seq rfl ?_
  refine W_seq rfl ?_
  refine W_reg rfl ?_
  refine Rv rfl rfl rfl (U_load3 rfl rfl rfl rfl rfl) rfl rfl ?_
  refine Rv rfl rfl rfl (U_call rfl rfl (chkR_p s c (by omega)) rfl) rfl rfl ?_
  refine Rv rfl rfl rfl (U_neq rfl rfl) rfl rfl ?_
  refine Re rfl ?_
  refine thenQ_n ?_
  refine WcondP rfl rfl (fun h0 => ?_) (fun h0 => ?_)
  · refine W_seq rfl ?_
    refine W_reg rfl ?_
    refine Rv rfl rfl rfl (U_load3 rfl rfl rfl rfl rfl) rfl rfl ?_
    refine Rv rfl rfl rfl (U_call rfl rfl (chkR_p s c (by omega)) rfl) rfl rfl ?_
    refine Rv rfl rfl rfl (U_assign rfl) rfl rfl ?_
    refine Re rfl ?_
    refine thenQ_n ?_
    refine W_ret rfl ?_
    refine thenQ_r ?_
    exact retL (rlT rfl rl0) (by first | rfl | (simp only [packA]; rw [chkM_eq, if_neg h0]; first | done | rfl) | (simp only [packA]; rw [chkM_eq, if_pos h0, if_neg (by rcases (by simpa using hc1 : isFrB p = false ∨ isFrB v = false) with h | h <;> simp [h])]; first | done | rfl) | (simp only [packA]; rw [chkM_eq, if_pos h0, if_pos (by rw [hp, hv]; rfl), if_neg (by simpa using hc2)]; first | done | rfl) | (simp only [packA]; rw [chkM_eq, if_pos h0, if_pos (by rw [hp, hv]; rfl), if_pos (by simpa using hc2)]; first | done | rfl)) rfl
  · rw [Decidable.not_not] at h0
    have hg := good_of h0
    refine W_skip rfl ?_
    refine thenQ_n ?_
    refine W_seq rfl ?_
    refine W_seq rfl ?_
    refine Wjoin ⟨[(2, .rop [i64 s.lo, i64 s.hi, .ros (s.es.flatMap entC) s.es.length c] 0), (3, .rop [i64 p.1, i64 p.2, i64 v.1, i64 v.2] 0), (19, .bool ((!(isFrB p)) || (!(isFrB v))))], [], 0, []⟩ ?_ ?_
    · refine W_reg rfl ?_
      refine Rv rfl rfl rfl (U_fieldAddrR rfl) rfl rfl ?_
      refine Rv rfl rfl rfl (U_load2 rfl rfl rfl rfl) rfl rfl ?_
      refine Rv rfl rfl rfl (U_call rfl rfl (isFr_p p) rfl) rfl rfl ?_
      refine Rv rfl rfl rfl (U_not rfl) rfl rfl ?_
      refine Rv rfl rfl rfl (U_move rfl) rfl rfl ?_
      refine Rsplit (t := 14) rfl (fun hg1 => ?_) (fun hg1 => ?_)
      · rw [hg1]
        refine Rs rfl rfl rfl rfl rfl ?_
        refine Rs rfl rfl rfl rfl rfl ?_
        refine Rs rfl rfl rfl rfl rfl ?_
        refine Rs rfl rfl rfl rfl rfl ?_
        refine Rv rfl rfl rfl (U_pick_t rfl rfl) rfl rfl ?_
        refine Re rfl ?_
        exact joinTo id ⟨eD rfl rfl, eD rfl rfl, eD rfl rfl, trivial⟩ trivial rfl rfl rfl rfl (fun _ _ => rfl)
      · rw [hg1]
        refine Rv rfl rfl rfl (U_fieldAddrR rfl) rfl rfl ?_
        refine Rv rfl rfl rfl (U_load2 rfl rfl rfl rfl) rfl rfl ?_
        refine Rv rfl rfl rfl (U_call rfl rfl (isFr_p v) rfl) rfl rfl ?_
        refine Rv rfl rfl rfl (U_not rfl) rfl rfl ?_
        refine Rv rfl rfl rfl (U_pick_f rfl rfl) rfl rfl ?_
        refine Re rfl ?_
        exact joinTo id ⟨eD rfl rfl, eD rfl rfl, eD rfl rfl, trivial⟩ trivial rfl rfl rfl rfl (fun _ _ => rfl)
    refine thenQ_n ?_
    refine Wcond rfl rfl (fun hc1 => ?_) (fun hc1 => ?_)
    · refine W_seq rfl ?_
      refine W_reg rfl ?_
      refine Rv rfl rfl rfl (U_assign rfl) rfl rfl ?_
      refine Re rfl ?_
      refine thenQ_n ?_
      refine W_ret rfl ?_
      refine thenQ_r ?_
      exact retL (rlT rfl rl0) (by first | rfl | (simp only [packA]; rw [chkM_eq, if_neg h0]; first | done | rfl) | (simp only [packA]; rw [chkM_eq, if_pos h0, if_neg (by rcases (by simpa using hc1 : isFrB p = false ∨ isFrB v = false) with h | h <;> simp [h])]; first | done | rfl) | (simp only [packA]; rw [chkM_eq, if_pos h0, if_pos (by rw [hp, hv]; rfl), if_neg (by simpa using hc2)]; first | done | rfl) | (simp only [packA]; rw [chkM_eq, if_pos h0, if_pos (by rw [hp, hv]; rfl), if_pos (by simpa using hc2)]; first | done | rfl)) rfl
    · have hc1' := Bool.eq_false_iff.1 hc1
      have hfr : isFrB p = true ∧ isFrB v = true := by simpa using hc1
      obtain ⟨hp, hv⟩ := hfr
      refine W_skip rfl ?_
      refine thenQ_n ?_
      refine W_seq rfl ?_
      refine W_seq rfl ?_
      refine W_reg rfl ?_
      refine Rv rfl rfl rfl (U_load3 rfl rfl rfl rfl rfl) rfl rfl ?_
      refine Rv rfl rfl rfl (U_load4 rfl rfl rfl rfl rfl rfl) rfl rfl ?_
      refine Rv rfl rfl rfl (U_call rfl rfl (agrees_p s c hg p v hp hv) rfl) rfl rfl ?_
      refine Rv rfl rfl rfl (U_not rfl) rfl rfl ?_
      refine Re rfl ?_
      refine thenQ_n ?_
      refine Wcond rfl rfl (fun hc2 => ?_) (fun hc2 => ?_)
      · refine W_seq rfl ?_
        refine W_reg rfl ?_
        refine Rv rfl rfl rfl (U_assign rfl) rfl rfl ?_
        refine Re rfl ?_
        refine thenQ_n ?_
        refine W_ret rfl ?_
        refine thenQ_r ?_
        exact retL (rlT rfl rl0) (by first | rfl | (simp only [packA]; rw [chkM_eq, if_neg h0]; first | done | rfl) | (simp only [packA]; rw [chkM_eq, if_pos h0, if_neg (by rcases (by simpa using hc1 : isFrB p = false ∨ isFrB v = false) with h | h <;> simp [h])]; first | done | rfl) | (simp only [packA]; rw [chkM_eq, if_pos h0, if_pos (by rw [hp, hv]; rfl), if_neg (by simpa using hc2)]; first | done | rfl) | (simp only [packA]; rw [chkM_eq, if_pos h0, if_pos (by rw [hp, hv]; rfl), if_pos (by simpa using hc2)]; first | done | rfl)) rfl
      · have hc2' := Bool.eq_false_iff.1 hc2
        refine W_skip rfl ?_
        refine thenQ_n ?_
        refine W_seq rfl ?_
        refine W_reg rfl ?_
        refine Rv rfl rfl rfl (U_assign rfl) rfl rfl ?_
        refine Re rfl ?_
        refine thenQ_n ?_
        refine W_ret rfl ?_
        exact retL (rlT rfl rl0) (by first | rfl | (simp only [packA]; rw [chkM_eq, if_neg h0]; first | done | rfl) | (simp only [packA]; rw [chkM_eq, if_pos h0, if_neg (by rcases (by simpa using hc1 : isFrB p = false ∨ isFrB v = false) with h | h <;> simp [h])]; first | done | rfl) | (simp only [packA]; rw [chkM_eq, if_pos h0, if_pos (by rw [hp, hv]; rfl), if_neg (by simpa using hc2)]; first | done | rfl) | (simp only [packA]; rw [chkM_eq, if_pos h0, if_pos (by rw [hp, hv]; rfl), if_pos (by simpa using hc2)]; first | done | rfl)) rfl
end Go.Proofs.Ytapappdgdiaijaa
end
