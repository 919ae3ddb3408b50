/-
  The walks of package simplex: nearest. That a choice is found: the nearest point of at most four points. The walks of package simplex: Near. Appending a slice that is told; a slice against nil. The walks of Go's library: comparing and sorting a few whole numbers, cloning a slice. From simplex to simplex: each is nearer than those before, so they come to an end. The walks of package gjk: fine, most, and the closure of walk.
-/
import Derived.Test.YtomdahjakkifbaaGreatPe

/-
  The walks of package simplex: nearest.
-/
namespace Go.Proofs.YtomdahjakkifbaaGreat
open Go Go.NP Go.RowKit Go.Proofs
set_option maxRecDepth 100000

theorem sgn_leq (x : Int) : binI .leq .i64 (sgnI x) .i64 0 = some (.bool (decide (x ≤ 0))) := by
  simp only [binI, if_true, sgnI]
  congr 2
  split
  · rename_i h; exact (decide_eq_true (by omega)).trans (decide_eq_true (by omega)).symm
  · rename_i h
    split
    · rename_i h0; exact (decide_eq_true (by omega)).trans (decide_eq_true (by omega)).symm
    · rename_i h0; exact (decide_eq_false (by omega)).trans (decide_eq_false (by omega)).symm
def nrZ : Nr := ⟨⟨0, 0, 0⟩, 0, .slice none 0 0⟩
theorem bldN0 : ∀ w, (Instr.build 36 [].toArray).run Tryz.prog w = .ok (.agg (Nr.l nrZ).toArray) w := fun w => by kernel_rfl
/-- The nearest point of a simplex's plane. -/
def nrOf (T : List Pt) : Nr := nrSum (nI T) (dI T)
/-- Is it within, and nothing of l past it? -/
def nearB (l T : List Pt) : Bool := (wI T).all (fun x => decide (0 < x)) && l.all fun p => !pastB (nrOf T).n (nrOf T).d p
theorem wI_bd {T : List Pt} (hok : okPts T) (h1 : 1 ≤ T.length) (h4 : T.length ≤ 4) : ∀ x ∈ wI T, -W190 ≤ x ∧ x ≤ W190 := by
  obtain ⟨n, hn⟩ : ∃ n : Int, n = T.length - 1 := ⟨_, rfl⟩
  have hgb := gI_bd hok hn
  have hm := fun wi => minorI_bd (wi := wi) (n := n) (by omega) (by omega) hgb
  have hd : -K183 ≤ dI T ∧ dI T ≤ K183 := by have := hm (-1); rw [hn] at this; exact this
  have hmk : ∀ k, -K183 ≤ mk T k ∧ mk T k ≤ K183 := fun k => by have := hm k; rw [hn] at this; exact this
  have c : 4 * K183 ≤ W190 := by decide
  have k0 : 0 ≤ K183 := by decide
  have hms : ∀ x ∈ ms T n.toNat, -K183 ≤ x ∧ x ≤ K183 := fun x hx => by obtain ⟨i, _, rfl⟩ := ms_mem hx; exact hmk i
  have htb := tot_bd hms
  rw [ms_len] at htb
  have hj3 : (n.toNat : Int) * K183 ≤ 3 * K183 := Int.mul_le_mul_of_nonneg_right (by omega) (by decide)
  intro x hx
  rw [wI_ms T h1 hn] at hx
  rcases List.mem_cons.1 hx with rfl | hx
  · omega
  · have := hms x hx; omega
theorem dI_bd {T : List Pt} (hok : okPts T) (h1 : 1 ≤ T.length) (h4 : T.length ≤ 4) : dI T ≤ K183 := (minorI_bd (wi := -1) (n := T.length - 1) (by omega) (by omega) (gI_bd hok rfl)).2
theorem comb_bd {T : List Pt} (hok : okPts T) : ∀ {u : List Int}, (∀ x ∈ u, -W190 ≤ x ∧ x ≤ W190) → u.length = T.length → (comb u T).In (T.length * W218) := by
  induction T with
  | nil => intro u hu hl; cases u with
    | nil => unfold Sp.In comb; simp
    | cons x u => simp at hl
  | cons q T ih =>
    intro u hu hl
    cases u with
    | nil => simp at hl
    | cons x u =>
      have h := ih (fun p hp => hok p (by simp [hp])) (u := u) (fun y hy => hu y (by simp [hy])) (by simpa using hl)
      have := addW_bd h (hu x (by simp)) (hok q (by simp))
      simpa [comb] using this
theorem nI_bd {T : List Pt} (hok : okPts T) (h1 : 1 ≤ T.length) (h4 : T.length ≤ 4) : (nI T).In Mid := by
  have := comb_bd hok (wI_bd hok h1 h4) (wI_len (nz_of_len h1))
  have e : (T.length : Int) * W218 ≤ 4 * W218 := Int.mul_le_mul_of_nonneg_right (by omega) (by decide)
  exact this.mono (Int.le_trans e (by decide))
theorem div_bd {a g K : Int} (h : -K ≤ a ∧ a ≤ K) (hg : 1 ≤ g) : -K ≤ a / g ∧ a / g ≤ K := by
  have hk : 0 ≤ K := by omega
  constructor
  · refine Int.le_ediv_of_mul_le (by omega) ?_
    have := Int.mul_nonneg hk (show 0 ≤ g - 1 by omega)
    rw [Int.mul_sub, Int.mul_one] at this
    rw [Int.neg_mul]; omega
  · have := Int.ediv_le_ediv (c := g) (by omega) h.2
    have h2 := Int.ediv_le_self g hk
    omega
theorem nrOf_bd {T : List Pt} (hok : okPts T) (h1 : 1 ≤ T.length) (h4 : T.length ≤ 4) (hd : 1 ≤ dI T) : (nrOf T).n.In Mid ∧ 1 ≤ (nrOf T).d ∧ (nrOf T).d ≤ Mid := by
  have hn := nI_bd hok h1 h4
  have g1 := gcdC_pos hd (nI T) 3
  have g2 := gcdC_le hd (nI T) 3
  have hdb := dI_bd hok h1 h4
  have c : K183 ≤ Mid := by decide
  refine ⟨⟨div_bd hn.1 g1, div_bd hn.2.1 g1, div_bd hn.2.2 g1⟩, ?_, ?_⟩
  · exact Int.le_ediv_of_mul_le (by omega) (by omega)
  · have := (div_bd (a := dI T) (K := Mid) (g := gcdC (dI T) (nI T) 3) (by omega) g1).2
    exact this
theorem wall_take {u : List Int} {j : Nat} {x : Int} (hx : u[j]? = some x) (h : ∀ y ∈ u.take j, 0 < y) (hp : 0 < x) : ∀ y ∈ u.take (j + 1), 0 < y := by
  intro y hy
  rw [List.take_add_one, hx] at hy
  rcases List.mem_append.1 hy with h1 | h1
  · exact h y h1
  · simp at h1; omega
theorem pall_take {l : List Pt} {P : Pt → Prop} {j : Nat} {x : Pt} (hx : l[j]? = some x) (h : ∀ y ∈ l.take j, P y) (hp : P x) : ∀ y ∈ l.take (j + 1), P y := by
  intro y hy
  rw [List.take_add_one, hx] at hy
  rcases List.mem_append.1 hy with h1 | h1
  · exact h y h1
  · simp at h1; rw [h1]; exact hp
theorem nearB_neg {l T : List Pt} {x : Int} (hx : x ∈ wI T) (h : ¬ 0 < x) : nearB l T = false := by
  unfold nearB
  rw [show (wI T).all (fun x => decide (0 < x)) = false from List.all_eq_false.2 ⟨x, hx, by simpa using h⟩]
  rfl
theorem nearB_past {l T : List Pt} {p : Pt} (hp : p ∈ l) (h : pastB (nrOf T).n (nrOf T).d p = true) : nearB l T = false := by
  unfold nearB
  rw [show l.all (fun p => !pastB (nrOf T).n (nrOf T).d p) = false from List.all_eq_false.2 ⟨p, hp, by simp [h]⟩, Bool.and_false]
theorem nearB_of {l T : List Pt} (h1 : ∀ x ∈ wI T, 0 < x) (h2 : ∀ p ∈ l, pastB (nrOf T).n (nrOf T).d p = false) : nearB l T = true := by
  unfold nearB
  rw [Bool.and_eq_true]
  exact ⟨List.all_eq_true.2 fun x hx => decide_eq_true (h1 x hx), List.all_eq_true.2 fun p hp => by simp [h2 p hp]⟩

set_option maxHeartbeats 4000000 in
theorem simplex_nearest {l T : List Pt} {v u : Value} (w : World) (hv : PtsAt w v l) (hu : PtsAt w u T) (hl : okPts l) (hll : l.length ≤ 1000000) (hok : okPts T) (h1 : 1 ≤ T.length) (h4 : T.length ≤ 4) (hd : 1 ≤ dI T) :
    Calls Tryz.prog 42 #[v, u] w fun e w' => e = .returned (.tuple #[.agg (Nr.l (if nearB l T then nrOf T else nrZ)).toArray, .bool (nearB l T)]) ∧ Below w.heap.size w w' := by
  have hv0 := hv
  have hu0 := hu
  obtain ⟨a, c, rfl, hs⟩ := hv
  obtain ⟨a', c', rfl, hs'⟩ := hu
  rw [List.length_map] at hv0 ⊢
  rw [List.length_map] at hu0 ⊢
  have hdb := dI_bd hok h1 h4
  have hwb := wI_bd hok h1 h4
  have hnr := nrOf_bd hok h1 h4 hd
  have hwl := wI_len (nz_of_len h1)
  obtain ⟨n1, hn1⟩ : ∃ n1, wI T = n1 := ⟨_, rfl⟩
  refine calls_of Tryz.func42 rfl Tryz.ntmps42 rfl (St.start w) (args := [.slice a l.length c, .slice a' T.length c']) ?_
  refine cw_sr ?_
  refine steps_s (s_allocA 4 rfl zer36 fun b4 => ?_)  -- simplex.go:194
  refine steps_q rfl (q_assign rfl) ?_  -- simplex.go:194
  refine steps_nil ?_
  refine cw_sr ?_
  refine steps_q rfl (q_move rfl) ?_  -- simplex.go:195
  refine steps_s (s_callSt ent66 rfl rfl rfl (R := WR T) (fun w' hw => simplex_weights w' (SlAt.st hu0 hw) hok h1 h4) fun v Ln hZ => ?_)  -- simplex.go:195
  obtain ⟨g, cur, cap, rfl, rfl, hsv⟩ := hZ
  rw [hn1] at hsv hwb hwl ⊢
  refine steps_q rfl (q_move rfl) ?_  -- simplex.go:195
  refine steps_q rfl (q_extract rfl rfl) ?_  -- simplex.go:195
  refine steps_q rfl (q_extract rfl rfl) ?_  -- simplex.go:195
  refine steps_s (s_allocA 7 rfl zer31 fun b7 => ?_)  -- simplex.go:195
  refine steps_q rfl (q_assign rfl) ?_  -- simplex.go:195
  refine steps_s (s_storeW 7 siz31 rfl rfl rfl rfl rfl rfl ?_)  -- simplex.go:195
  refine steps_nil ?_
  refine cw_seq ?_
  refine cw_sr ?_
  refine steps_q rfl (q_move rfl) ?_  -- simplex.go:196
  refine steps_q rfl (q_lenSl Tryz.underlying106 rfl) ?_  -- simplex.go:196
  refine steps_q rfl (q_move rfl) ?_  -- simplex.go:196
  refine steps_nil ?_
  refine cw_block ?_
  -- LOOP 1 writes [9, 20, 21, 22, 23, 24, 25, 26, 27, 28]  stores via [4, 9]  reads [4, 18, 19]
  refine cw_loop (S := Nat) (fun j => [(0, .slice a l.length c), (1, .slice a' T.length c'), (4, .pointer (some ⟨b4, 0, none⟩)), (6, .slice (some ⟨g, 0, none⟩) n1.length cap), (7, .pointer (some ⟨b7, 0, none⟩)), (18, .slice (some ⟨g, 0, none⟩) n1.length cap), (19, .int .i64 n1.length), (20, .int .i64 j)]) (fun _ => [(4, (b4, .cells (Nr.l nrZ).toArray 36 (0, 0))), (7, (b7, .cells (Wl (dI T)).toArray 31 (0, 0))), (61, (g, .cells cur.toArray 31 (0, 0)))]) (fun j => j ≤ n1.length ∧ ∀ x ∈ n1.take j, 0 < x) (fun j => n1.length - j) 0 ⟨by omega, by simp⟩ (subs ⟨rfl, rfl, rfl, rfl, rfl, rfl, rfl, rfl, trivial⟩) (subs ⟨rfl, rfl, rfl, trivial⟩) ?_
  intro j ⟨j1, hpos⟩
  refine cw_sr ?_
  refine steps_q rfl (q_bin rfl rfl rfl) ?_  -- simplex.go:196
  refine steps_nil ?_
  refine cw_seq ?_
  refine cw_cond _ rfl (fun hc1 => ?_) (fun hc1 => ?_)
  · -- yes 1
    have hj : (j : Int) < (n1.length : Int) := of_decide_eq_true hc1
    obtain ⟨x, hx⟩ : ∃ x, n1[j]? = some x := ⟨n1[j]'(by omega), List.getElem?_eq_getElem (by omega)⟩
    have hxm := List.mem_of_getElem? hx
    have hxl : (n1.map Wl)[(j : Int).toNat]? = some (Wl x) := by rw [Int.toNat_natCast, List.getElem?_map, hx]; rfl
    have fx : Fits x := fits_big (by have := hwb x hxm; unfold W190 at this; unfold Big; omega)
    refine cw_skip ?_
    refine at_then ?_
    refine cw_seq ?_
    refine cw_block ?_
    refine cw_sr ?_
    refine steps_q rfl (q_indexSl slc106 rfl rfl (by omega) (by omega)) ?_  -- simplex.go:196
    refine steps_q rfl (q_loadA 61 agg31 rfl rfl (SV.part hsv hxl)) ?_  -- simplex.go:196
    refine steps_s (s_allocA 9 rfl zer31 fun b9 => ?_)  -- simplex.go:196
    refine steps_s (s_storeW 9 siz31 rfl rfl rfl rfl rfl rfl ?_)  -- simplex.go:196
    refine steps_nil ?_
    refine cw_sr ?_
    refine steps_q rfl (q_loadW 9 agg31 rfl rfl rfl) ?_  -- simplex.go:197
    refine steps_q rfl (q_pure ent67 rfl (wide_Sign _ fx)) ?_  -- simplex.go:197
    refine steps_q rfl (q_bin rfl rfl (sgn_leq x)) ?_  -- simplex.go:197
    refine steps_nil ?_
    refine cw_cond _ rfl (fun hc2 => ?_) (fun hc2 => ?_)
    · -- yes 2
      have hx0 : x ≤ 0 := of_decide_eq_true hc2
      have hB : nearB l T = false := nearB_neg (by rw [hn1]; exact hxm) (by omega)
      rw [hB]
      refine cw_sr ?_
      refine steps_q rfl (q_build (vs := []) rfl rfl bldN0) ?_  -- simplex.go:198
      refine steps_s (s_storeW 4 siz36 rfl rfl rfl rfl rfl rfl ?_)  -- simplex.go:198
      refine steps_q rfl (q_assign rfl) ?_  -- simplex.go:198
      refine steps_nil ?_
      refine cw_ret ?_
      exact ret_pure rfl (rv_agg 4 agg36 rfl rfl rfl (rv_tmp rfl rv_nil)) rfl
    · -- no 2
      have hx0 : ¬ x ≤ 0 := of_decide_eq_false hc2
      refine cw_skip ?_
      refine at_then ?_
      refine cw_region ?_
      refine steps_q rfl (q_bin rfl rfl (add64 (by omega) (by omega))) ?_  -- simplex.go:196
      refine steps_q rfl (q_move rfl) ?_  -- simplex.go:196
      refine steps_nil ?_
      exact at_round (j + 1) ⟨by omega, wall_take hx hpos (by omega)⟩ (by omega) (subs ⟨rfl, rfl, rfl, rfl, rfl, rfl, rfl, rfl, trivial⟩) (subs ⟨rfl, rfl, rfl, trivial⟩)
  · -- no 1
    have hj : ¬ (j : Int) < (n1.length : Int) := of_decide_eq_false hc1
    have hall : ∀ x ∈ wI T, 0 < x := by rw [hn1]; rwa [List.take_of_length_le (by omega)] at hpos
    refine cw_exit ?_
    refine at_then ?_
    refine cw_sr ?_
    refine steps_q rfl (q_move rfl) ?_  -- simplex.go:201
    refine steps_q rfl (q_move rfl) ?_  -- simplex.go:201
    refine steps_q rfl (q_loadW 7 agg31 rfl rfl rfl) ?_  -- simplex.go:201
    refine steps_q rfl (q_call ent68 rfl rfl (fun w' hw => by have := simplex_sum w' (SlAt.st hu0 hw) (SlAt.own (q := some (g, cur, cap)) (i := 61) (e := 31) hw (subs ⟨rfl, trivial⟩) hsv) (by omega) h4 hok hwb hd (Int.le_trans hdb (by decide)); rw [List.length_map] at this; simpa using this)) ?_  -- simplex.go:201
    rw [sumR0, ← hn1, show comb (wI T) T = nI T from rfl, show nrSum (nI T) (dI T) = nrOf T from rfl]
    refine steps_s (s_allocA 10 rfl zer36 fun b10 => ?_)  -- simplex.go:201
    refine steps_s (s_storeW 10 siz36 rfl rfl rfl rfl rfl rfl ?_)  -- simplex.go:201
    refine steps_nil ?_
    refine cw_seq ?_
    refine cw_sr ?_
    refine steps_q rfl (q_move rfl) ?_  -- simplex.go:202
    refine steps_q rfl (q_lenSl Tryz.underlying22 rfl) ?_  -- simplex.go:202
    refine steps_q rfl (q_move rfl) ?_  -- simplex.go:202
    refine steps_nil ?_
    refine cw_block ?_
    -- LOOP 2 writes [12, 35, 36, 37, 38, 39, 40, 41, 42, 43]  stores via [4, 12]  reads [4, 10, 33, 34]
    refine cw_loop (S := Nat) (fun j => [(4, .pointer (some ⟨b4, 0, none⟩)), (10, .pointer (some ⟨b10, 0, none⟩)), (33, .slice a l.length c), (34, .int .i64 l.length), (35, .int .i64 j)]) (fun _ => [(4, (b4, .cells (Nr.l nrZ).toArray 36 (0, 0))), (10, (b10, .cells (Nr.l (nrOf T)).toArray 36 (0, 0)))]) (fun j => j ≤ l.length ∧ ∀ p ∈ l.take j, pastB (nrOf T).n (nrOf T).d p = false) (fun j => l.length - j) 0 ⟨by omega, by simp⟩ (subs ⟨rfl, rfl, rfl, rfl, rfl, trivial⟩) (subs ⟨rfl, rfl, trivial⟩) ?_
    intro j ⟨j1, hpast⟩
    refine cw_sr ?_
    refine steps_q rfl (q_bin rfl rfl rfl) ?_  -- simplex.go:202
    refine steps_nil ?_
    refine cw_seq ?_
    refine cw_cond _ rfl (fun hc3 => ?_) (fun hc3 => ?_)
    · -- yes 3
      have hj : (j : Int) < (l.length : Int) := of_decide_eq_true hc3
      obtain ⟨p, hp⟩ : ∃ p, l[j]? = some p := ⟨l[j]'(by omega), List.getElem?_eq_getElem (by omega)⟩
      have hpl : (l.map Pt.l)[(j : Int).toNat]? = some p.l := by rw [Int.toNat_natCast, List.getElem?_map, hp]; rfl
      have hpm := List.mem_of_getElem? hp
      obtain ⟨bl, off, l0, fz, rfl, hb, hpt⟩ := hs.resolve_left (by intro h; rw [h] at hpl; simp at hpl)
      refine cw_skip ?_
      refine at_then ?_
      refine cw_seq ?_
      refine cw_block ?_
      refine cw_sr ?_
      refine steps_q rfl (q_indexSl slc22 rfl rfl (by omega) hj) ?_  -- simplex.go:202
      refine steps_q rfl (q_loadAo agg47 rfl hb (by simp) (hpt _ _ hpl)) ?_  -- simplex.go:202
      refine steps_s (s_allocA 12 rfl zer47 fun b12 => ?_)  -- simplex.go:202
      refine steps_s (s_storeW 12 siz47 rfl rfl rfl rfl rfl rfl ?_)  -- simplex.go:202
      refine steps_nil ?_
      refine cw_sr ?_
      refine steps_q rfl (q_loadW 10 agg36 rfl rfl rfl) ?_  -- simplex.go:203
      refine steps_q rfl (q_loadW 12 agg47 rfl rfl rfl) ?_  -- simplex.go:203
      refine steps_q rfl (q_pure ent60 rfl (simplex_Past hnr.1 (by have := hnr.2; omega) ((hl p hpm).mono (by decide)))) ?_  -- simplex.go:203
      refine steps_nil ?_
      refine cw_cond _ rfl (fun hc4 => ?_) (fun hc4 => ?_)
      · -- yes 4
        have hB : nearB l T = false := nearB_past hpm hc4
        rw [hB]
        refine cw_sr ?_
        refine steps_q rfl (q_build (vs := []) rfl rfl bldN0) ?_  -- simplex.go:204
        refine steps_s (s_storeW 4 siz36 rfl rfl rfl rfl rfl rfl ?_)  -- simplex.go:204
        refine steps_q rfl (q_assign rfl) ?_  -- simplex.go:204
        refine steps_nil ?_
        refine cw_ret ?_
        exact ret_pure rfl (rv_agg 4 agg36 rfl rfl rfl (rv_tmp rfl rv_nil)) rfl
      · -- no 4
        refine cw_skip ?_
        refine at_then ?_
        refine cw_region ?_
        refine steps_q rfl (q_bin rfl rfl (add64 (by omega) (by omega))) ?_  -- simplex.go:202
        refine steps_q rfl (q_move rfl) ?_  -- simplex.go:202
        refine steps_nil ?_
        exact at_round (j + 1) ⟨by omega, pall_take hp hpast hc4⟩ (by omega) (subs ⟨rfl, rfl, rfl, rfl, rfl, trivial⟩) (subs ⟨rfl, rfl, trivial⟩)
    · -- no 3
      have hj : ¬ (j : Int) < (l.length : Int) := of_decide_eq_false hc3
      have hB : nearB l T = true := nearB_of hall (by rwa [List.take_of_length_le (by omega)] at hpast)
      rw [hB]
      refine cw_exit ?_
      refine at_then ?_
      refine cw_sr ?_
      refine steps_q rfl (q_loadW 10 agg36 rfl rfl rfl) ?_  -- simplex.go:207
      refine steps_s (s_storeW 4 siz36 rfl rfl rfl rfl rfl rfl ?_)  -- simplex.go:207
      refine steps_q rfl (q_assign rfl) ?_  -- simplex.go:207
      refine steps_nil ?_
      refine cw_ret ?_
      exact ret_pure rfl (rv_agg 4 agg36 rfl rfl rfl (rv_tmp rfl rv_nil)) rfl
end Go.Proofs.YtomdahjakkifbaaGreat

/-
  That a choice is found: the nearest point of at most four points.
-/
namespace Go.Proofs.YtomdahjakkifbaaGreat
open Go Go.NP Go.RowKit Go.Proofs
set_option maxRecDepth 100000

/-! ## Made small -/
theorem gcdC_dvd (d : Int) (s : Sp) : gcdC d s 3 ∣ d ∧ gcdC d s 3 ∣ s.x ∧ gcdC d s 3 ∣ s.y ∧ gcdC d s 3 ∣ s.z := by
  have e1 : gcdC d s 1 = (Int.gcd d s.x : Int) := rfl
  have e2 : gcdC d s 2 = (Int.gcd (gcdC d s 1) s.y : Int) := rfl
  have e3 : gcdC d s 3 = (Int.gcd (gcdC d s 2) s.z : Int) := rfl
  have h3 : gcdC d s 3 ∣ gcdC d s 2 := by rw [e3]; exact Int.gcd_dvd_left _ _
  have h2 : gcdC d s 2 ∣ gcdC d s 1 := by rw [e2]; exact Int.gcd_dvd_left _ _
  have h1 : gcdC d s 1 ∣ d := by rw [e1]; exact Int.gcd_dvd_left _ _
  refine ⟨Int.dvd_trans h3 (Int.dvd_trans h2 h1), Int.dvd_trans h3 (Int.dvd_trans h2 ?_), Int.dvd_trans h3 ?_, ?_⟩
  · rw [e1]; exact Int.gcd_dvd_right _ _
  · rw [e2]; exact Int.gcd_dvd_right _ _
  · rw [e3]; exact Int.gcd_dvd_right _ _
theorem cross_div {g a d : Int} (hd : g ∣ d) (ha : g ∣ a) : d / g * a = d * (a / g) := by
  rw [← Int.mul_ediv_assoc d ha, Int.mul_comm (d / g), ← Int.mul_ediv_assoc a hd, Int.mul_comm]
theorem nrSum_same (N : Sp) (d : Int) : SameN N d (nrSum N d).n (nrSum N d).d := by
  obtain ⟨h0, h1, h2, h3⟩ := gcdC_dvd d N
  exact ⟨cross_div h0 h1, cross_div h0 h2, cross_div h0 h3⟩
theorem nrSum_pos {N : Sp} {d : Int} (hd : 1 ≤ d) : 1 ≤ (nrSum N d).d := by
  have g1 := gcdC_pos hd N 3
  have g2 := gcdC_le hd N 3
  exact Int.le_ediv_of_mul_le (by omega) (by omega)
theorem gcdC_scale {k : Int} (hk : 0 ≤ k) (d : Int) (s : Sp) : gcdC (k * d) ⟨k * s.x, k * s.y, k * s.z⟩ 3 = k * gcdC d s 3 := by
  have e : ∀ a b : Int, (Int.gcd (k * a) (k * b) : Int) = k * Int.gcd a b := fun a b => by
    rw [Int.gcd_mul_left, Int.natCast_mul, Int.natAbs_of_nonneg hk]
  show (Int.gcd (Int.gcd (Int.gcd (k * d) (k * s.x)) (k * s.y) : Int) (k * s.z) : Int) = k * (Int.gcd (Int.gcd (Int.gcd d s.x) s.y : Int) s.z : Int)
  rw [e, e, e]
theorem nrSum_scale {k : Int} (hk : 0 < k) {d : Int} (hd : 1 ≤ d) (s : Sp) : nrSum ⟨k * s.x, k * s.y, k * s.z⟩ (k * d) = nrSum s d := by
  have g1 := gcdC_pos hd s 3
  simp only [nrSum, gcdC_scale (Int.le_of_lt hk), Int.mul_ediv_mul_of_pos _ _ hk]
/-- The same point, made small, is the same. -/
theorem nrSum_eq {N M : Sp} {d e : Int} (h : SameN N d M e) (hd : 1 ≤ d) (he : 1 ≤ e) : nrSum N d = nrSum M e := by
  obtain ⟨h1, h2, h3⟩ := h
  rw [← nrSum_scale (k := e) (by omega) hd N, ← nrSum_scale (k := d) (by omega) he M, h1, h2, h3, Int.mul_comm e d]

/-! ## Found -/
def sel (ps : List Pt) (c : List Int) : List Pt := c.map (ptI ps)
def testB (ps : List Pt) (c : List Int) : Bool := decide (rankI (sel ps c) = (sel ps c).length - 1) && nearB ps (sel ps c)
theorem choices1 : choicesI 1 = [[0]] := by kernel_rfl
theorem choices2 : choicesI 2 = [[0], [1], [0, 1]] := by kernel_rfl
theorem choices3 : choicesI 3 = [[0], [1], [2], [0, 1], [0, 2], [1, 2], [0, 1, 2]] := by kernel_rfl
theorem choices4 : choicesI 4 = [[0], [1], [2], [3], [0, 1], [0, 2], [0, 3], [1, 2], [1, 3], [2, 3], [0, 1, 2], [0, 1, 3], [0, 2, 3], [1, 2, 3], [0, 1, 2, 3]] := by kernel_rfl
theorem choice_of {l S : List Pt} (h1 : 1 ≤ S.length) (h4 : l.length ≤ 4) (h : S.Sublist l) : ∃ c, c ∈ choicesI l.length ∧ sel l c = S := by
  match l, h4, h with
  | [], _, h => rw [List.sublist_nil.1 h] at h1; simp at h1
  | [a], _, h =>
    show ∃ c, c ∈ choicesI 1 ∧ _
    rw [choices1]
    simp only [List.sublist_cons_iff, List.sublist_nil] at h
    rcases h with rfl | ⟨r, rfl, rfl⟩
    · simp at h1
    · exact ⟨[0], by simp, rfl⟩
  | [a, b], _, h =>
    show ∃ c, c ∈ choicesI 2 ∧ _
    rw [choices2]
    simp only [List.sublist_cons_iff, List.sublist_nil] at h
    rcases h with (rfl | ⟨r, rfl, rfl⟩) | ⟨r, rfl, (rfl | ⟨r, rfl, rfl⟩)⟩
    · simp at h1
    all_goals first
      | exact ⟨[0], by simp, rfl⟩ | exact ⟨[1], by simp, rfl⟩ | exact ⟨[0, 1], by simp, rfl⟩
  | [a, b, c], _, h =>
    show ∃ c, c ∈ choicesI 3 ∧ _
    rw [choices3]
    simp only [List.sublist_cons_iff, List.sublist_nil] at h
    rcases h with ((rfl | ⟨r, rfl, rfl⟩) | ⟨r, rfl, (rfl | ⟨r, rfl, rfl⟩)⟩) | ⟨r, rfl, ((rfl | ⟨r, rfl, rfl⟩) | ⟨r, rfl, (rfl | ⟨r, rfl, rfl⟩)⟩)⟩
    · simp at h1
    all_goals first
      | exact ⟨[0], by simp, rfl⟩ | exact ⟨[1], by simp, rfl⟩ | exact ⟨[2], by simp, rfl⟩ | exact ⟨[0, 1], by simp, rfl⟩ | exact ⟨[0, 2], by simp, rfl⟩ | exact ⟨[1, 2], by simp, rfl⟩ | exact ⟨[0, 1, 2], by simp, rfl⟩
  | [a, b, c, d], _, h =>
    show ∃ c, c ∈ choicesI 4 ∧ _
    rw [choices4]
    simp only [List.sublist_cons_iff, List.sublist_nil] at h
    rcases h with (((rfl | ⟨r, rfl, rfl⟩) | ⟨r, rfl, (rfl | ⟨r, rfl, rfl⟩)⟩) | ⟨r, rfl, ((rfl | ⟨r, rfl, rfl⟩) | ⟨r, rfl, (rfl | ⟨r, rfl, rfl⟩)⟩)⟩) | ⟨r, rfl, (((rfl | ⟨r, rfl, rfl⟩) | ⟨r, rfl, (rfl | ⟨r, rfl, rfl⟩)⟩) | ⟨r, rfl, ((rfl | ⟨r, rfl, rfl⟩) | ⟨r, rfl, (rfl | ⟨r, rfl, rfl⟩)⟩)⟩)⟩
    · simp at h1
    all_goals first
      | exact ⟨[0], by simp, rfl⟩ | exact ⟨[1], by simp, rfl⟩ | exact ⟨[2], by simp, rfl⟩ | exact ⟨[3], by simp, rfl⟩ | exact ⟨[0, 1], by simp, rfl⟩ | exact ⟨[0, 2], by simp, rfl⟩ | exact ⟨[0, 3], by simp, rfl⟩ | exact ⟨[1, 2], by simp, rfl⟩ | exact ⟨[1, 3], by simp, rfl⟩ | exact ⟨[2, 3], by simp, rfl⟩ | exact ⟨[0, 1, 2], by simp, rfl⟩ | exact ⟨[0, 1, 3], by simp, rfl⟩ | exact ⟨[0, 2, 3], by simp, rfl⟩ | exact ⟨[1, 2, 3], by simp, rfl⟩ | exact ⟨[0, 1, 2, 3], by simp, rfl⟩
theorem past_iff {l : List Pt} {N : Sp} {d : Int} (hd : 1 ≤ d) : (∀ p ∈ l, pastB (nrSum N d).n (nrSum N d).d p = false) ↔ Ahead l N d := by
  have hs := nrSum_same N d
  have hp := nrSum_pos (N := N) hd
  have e : ∀ p, pastB (nrSum N d).n (nrSum N d).d p = false ↔ sqS N ≤ dotS N p * d := fun p => by
    rw [hs.past (by omega) (by omega)]
    simp only [pastB, decide_eq_false_iff_not]
    omega
  exact ⟨fun h p hp => (e p).1 (h p hp), fun h p hp => (e p).2 (h p hp)⟩
/-- What a choice that passes is. -/
theorem testB_iff {ps : List Pt} {c : List Int} (h1 : 1 ≤ c.length) (h4 : c.length ≤ 4) : testB ps c = true ↔ Good (sel ps c) ∧ Ahead ps (nI (sel ps c)) (dI (sel ps c)) := by
  have l1 : 1 ≤ (sel ps c).length := by simpa [sel] using h1
  have l4 : (sel ps c).length ≤ 4 := by simpa [sel] using h4
  simp only [testB, nearB, Bool.and_eq_true, decide_eq_true_eq, List.all_eq_true, Bool.not_eq_true']
  rw [rank_full l1 l4]
  constructor
  · rintro ⟨hd, hw, hp⟩
    have ha := AI_of l1 l4 hd
    have hd1 := ha.pos l1 l4
    exact ⟨⟨l1, l4, ha, hw⟩, (past_iff (by omega)).1 hp⟩
  · rintro ⟨hg, ha⟩
    have hd := hg.dpos
    exact ⟨by omega, hg.pos, (past_iff (by omega)).2 ha⟩
theorem choice_len {n : Int} (hn : N4 n) {c : List Int} (hc : c ∈ choicesI n) : 1 ≤ c.length ∧ c.length ≤ 4 ∧ (∀ k ∈ c, 0 ≤ k ∧ k < n) ∧ c.Pairwise (· < ·) := by
  have key : ∀ (L : List (List Int)), L.all (fun c => decide (1 ≤ c.length ∧ c.length ≤ 4 ∧ (∀ k ∈ c, 0 ≤ k ∧ k < n) ∧ c.Pairwise (· < ·))) = true → c ∈ L → _ := fun L h hc => of_decide_eq_true (List.all_eq_true.1 h c hc)
  rcases hn with rfl | rfl | rfl | rfl
  · exact key _ (by rw [choices1]; decide) hc
  · exact key _ (by rw [choices2]; decide) hc
  · exact key _ (by rw [choices3]; decide) hc
  · exact key _ (by rw [choices4]; decide) hc
theorem near_found {ps : List Pt} (h1 : 1 ≤ ps.length) (h4 : ps.length ≤ 4) : ∃ c, c ∈ choicesI ps.length ∧ testB ps c = true := by
  obtain ⟨S, hs, hg, ha⟩ := best_sub (nz_of_len h1)
  obtain ⟨c, hc, rfl⟩ := choice_of hg.ne h4 hs
  obtain ⟨l1, l4, _⟩ := choice_len (n4 (by omega) (by omega)) hc
  exact ⟨c, hc, (testB_iff l1 l4).2 ⟨hg, ha⟩⟩
end Go.Proofs.YtomdahjakkifbaaGreat

/-
  The walks of package simplex: Near.
-/
namespace Go.Proofs.YtomdahjakkifbaaGreat
open Go Go.NP Go.RowKit Go.Proofs
set_option maxRecDepth 100000

/-! ## A round of a range, within a function that turns nothing old -/
theorem round_gM {w W : World} {M : List Nat} {Lo Lt : HL} (hW : St w M W (Lo ++ Lt)) (ho : bigL Lo = true) (ht : okL Lt = true) {j g : Nat} {o : Obj} (hj : NP.look Lo j = some (g, o)) : g ∉ blocks Lt := fun hm => by
  obtain ⟨i, p, hi⟩ := blocks_look ht g hm
  have h1 := bigL_great ho hj
  have h2 := okL_small ht hi
  exact hW.apart j i g o g p (sub_left j _ hj) (sub_right ho ht i _ hi) (by omega) rfl
theorem round_gW {w W : World} {M : List Nat} {Lo Lt : HL} (hW : St w M W (Lo ++ Lt)) {j g : Nat} {o : Obj} (hj : NP.look Lo j = some (g, o)) : W.heap[g]? = some o := (hW.known j g o (sub_left j _ hj)).1
theorem round_ge {w W : World} {Lo Lt : HL} (hW : St w [] W (Lo ++ Lt)) (ho : bigL Lo = true) (ht : okL Lt = true) {k : Nat} (hk : k < w.heap.size) : k ∉ blocks Lt := fun hm => by
  obtain ⟨i, p, hi⟩ := blocks_look ht k hm
  rcases (hW.known i k p (sub_right ho ht i _ hi)).2 with h | h
  · omega
  · cases h
theorem round_old {w W W' : World} {Lo Lt L : HL} (hW : St w [] W (Lo ++ Lt)) (ho : bigL Lo = true) (ht : okL Lt = true) (h' : St W (blocks Lt) W' L) : Below w.heap.size w W' := by
  have hb := hW.below
  refine ⟨h'.os.trans hb.os, h'.tape.trans hb.tape, h'.output.trans hb.output, Nat.le_trans hb.size h'.size, fun k hk => ?_⟩
  rw [h'.old k (Nat.lt_of_lt_of_le hk hb.size) (round_ge hW ho ht hk)]
  exact hb.block k hk
/-- Behind a range that was left in a round: what was handed out there has a number of its own. -/
theorem ren_stop {Lo Lc A : HL} {d x : Nat × Obj} {j : Nat} (ho : bigL Lo = true) (hj : NP.look Lo j = some x) (hA : SubL A Lc) (hAs : ∀ i y, NP.look A i = some y → i < 900 ∧ i ≠ 63) : SubR (fun i => if i = 63 then j else i) ((901, d) :: (63, x) :: A) ((901, d) :: (Lo ++ Lc)) := by
  have hj1 := bigL_great ho hj
  refine ⟨fun i y hi => ?_, fun i k y z hi hk he => ?_⟩
  · show NP.look _ (if i = 63 then j else i) = _
    rw [look_cons] at hi
    split at hi
    · rename_i e; subst e; rw [if_neg (by decide), look_cons, if_pos rfl]; exact hi
    · rename_i e
      rw [look_cons] at hi
      split at hi
      · rename_i e63; subst e63; rw [if_pos rfl, look_cons, if_neg (by omega), look_append, hj]; exact hi
      · rename_i e63
        rw [if_neg (Ne.symm e63), look_cons, if_neg e, look_append]
        have h9 := (hAs i y hi).1
        cases hl : NP.look Lo i with
        | some q => have := bigL_great ho hl; omega
        | none => exact hA i y hi
  · have he : (if i = 63 then j else i) = (if k = 63 then j else k) := he
    have key : ∀ i y, NP.look ((901, d) :: (63, x) :: A) i = some y → i ≤ 901 := fun i y hi => by
      rw [look_cons] at hi
      split at hi
      · omega
      · rw [look_cons] at hi
        split at hi
        · omega
        · have := (hAs i y hi).1; omega
    have := key i y hi
    have := key k z hk
    split at he <;> split at he <;> omega
theorem sel_len (ps : List Pt) (c : List Int) : (sel ps c).length = c.length := List.length_map _
theorem sel_ok {ps : List Pt} (h : okPts ps) {c : List Int} (hc : ∀ k ∈ c, 0 ≤ k ∧ k < ps.length) : okPts (sel ps c) := fun p hp => by
  obtain ⟨k, hk, rfl⟩ := List.mem_map.1 hp
  exact ptI_in h (hc k hk).1 (hc k hk).2
theorem errPts_ok {ps : List Pt} (h : okPts ps) (hl : ps.length ≤ 256) : errPts ps = 0 := by unfold errPts; rw [if_pos h, if_pos hl]
/-- What Near hands back, of points that may be. -/
def NR (ps : List Pt) (v : Value) (Ln : HL) : Prop := ∃ c g cur cap, c ∈ choicesI ps.length ∧ testB ps c = true ∧
  v = .tuple #[.agg (Nr.l ⟨(nrOf (sel ps c)).n, (nrOf (sel ps c)).d, .slice (some ⟨g, 0, none⟩) c.length cap⟩).toArray, .int .i64 0] ∧ Ln = [(63, (g, .cells cur.toArray 3 (0, 0)))] ∧ SV.ok 1 (some (g, cur, cap)) (c.map intC)

theorem lss_t {a b : Int} (h : a < b) : binI .lss .i64 a .i64 b = some (.bool true) := by simp [binI, h]
theorem lss_f {a b : Int} (h : ¬ a < b) : binI .lss .i64 a .i64 b = some (.bool false) := by simp [binI, h]
theorem gtr_t {a b : Int} (h : a > b) : binI .gtr .i64 a .i64 b = some (.bool true) := by simp [binI, h]
theorem gtr_f {a b : Int} (h : ¬ a > b) : binI .gtr .i64 a .i64 b = some (.bool false) := by simp [binI, h]
theorem neq_t {a b : Int} (h : a ≠ b) : binI .neq .i64 a .i64 b = some (.bool true) := by simp [binI, h]
theorem neq_f {a b : Int} (h : a = b) : binI .neq .i64 a .i64 b = some (.bool false) := by simp [binI, h]
theorem simplex_Near_bad {ps : List Pt} {v : Value} (w : World) (hv : PtsAt w v ps) (hl : ps.length ≤ 1000000) (hb : ps.length < 1 ∨ 4 < ps.length ∨ errPts ps ≠ 0) :
    Calls Tryz.prog 28 #[v] w fun e w' => e = .returned (.tuple #[.agg (Nr.l nrZ).toArray, .int .i64 (if 1 ≤ ps.length ∧ ps.length ≤ 4 then errPts ps else 2)]) ∧ Below w.heap.size w w' := by
  have hv0 := hv
  obtain ⟨a, c, rfl, hs⟩ := hv
  rw [List.length_map] at hv0 ⊢
  by_cases h1 : 1 ≤ ps.length
  · by_cases h4 : ps.length ≤ 4
    · have he : errPts ps ≠ 0 := by omega
      rw [if_pos ⟨h1, h4⟩]
      refine calls_of Tryz.func28 rfl Tryz.ntmps28 rfl (St.start w) (args := [.slice a ps.length c]) ?_
      refine cw_sr ?_
      refine steps_s (s_box1 1 rfl rfl rfl fun b1 => ?_)  -- simplex.go:170
      refine steps_s (s_allocA 2 rfl zer36 fun b2 => ?_)  -- simplex.go:170
      refine steps_s (s_alloc1 3 rfl zer24 rfl fun b3 => ?_)  -- simplex.go:170
      refine steps_nil ?_
      refine cw_seq ?_
      refine cw_sr ?_
      refine steps_q rfl (q_load1 1 one22 rfl rfl rfl) ?_  -- simplex.go:171
      refine steps_q rfl (q_lenSl Tryz.underlying22 rfl) ?_  -- simplex.go:171
      refine steps_q rfl (q_bin rfl rfl (lss_f (by omega))) ?_  -- simplex.go:171
      refine steps_q rfl (q_move rfl) ?_  -- simplex.go:171
      refine steps_gq rfl rfl rfl (q_load1 1 one22 rfl rfl rfl) ?_  -- simplex.go:171
      refine steps_gq rfl rfl rfl (q_lenSl Tryz.underlying22 rfl) ?_  -- simplex.go:171
      refine steps_gq rfl rfl rfl (q_bin rfl rfl (gtr_f (by omega))) ?_  -- simplex.go:171
      refine steps_q rfl (q_pick_f rfl rfl) ?_  -- simplex.go:171
      refine steps_nil ?_
      refine cw_cond _ rfl (fun hc1 => ?_) (fun hc1 => ?_)
      · cases hc1
      · -- no 1
        refine cw_skip ?_
        refine at_then ?_
        refine cw_seq ?_
        refine cw_sr ?_
        refine steps_q rfl (q_load1 1 one22 rfl rfl rfl) ?_  -- simplex.go:174
        refine steps_q rfl (q_call ent40 rfl rfl (fun w' hw => by simpa using orient_Rank w' (SlAt.st hv0 hw) hl)) ?_  -- simplex.go:174
        refine steps_q rfl (q_move rfl) ?_  -- simplex.go:174
        refine steps_q rfl (q_extract rfl rfl) ?_  -- simplex.go:174
        refine steps_q rfl (q_extract rfl rfl) ?_  -- simplex.go:174
        refine steps_q rfl (q_assign rfl) ?_  -- simplex.go:174
        refine steps_q rfl (q_assign rfl) ?_  -- simplex.go:174
        refine steps_nil ?_
        refine cw_sr ?_
        refine steps_q rfl (q_move rfl) ?_  -- simplex.go:174
        refine steps_q rfl (q_bin rfl rfl (neq_t he)) ?_  -- simplex.go:174
        refine steps_nil ?_
        refine cw_cond _ rfl (fun hc2 => ?_) (fun hc2 => ?_)
        · -- yes 2
          refine cw_sr ?_
          refine steps_q rfl (q_build (vs := []) rfl rfl bldN0) ?_  -- simplex.go:175
          refine steps_q rfl (q_move rfl) ?_  -- simplex.go:175
          refine steps_s (s_storeW 2 siz36 rfl rfl rfl rfl rfl rfl ?_)  -- simplex.go:175
          refine steps_s (s_storeV 3 siz24 rfl rfl rfl rfl rfl ?_)  -- simplex.go:175
          refine steps_nil ?_
          refine cw_ret ?_
          exact ret_pure rfl (rv_agg 2 agg36 rfl rfl rfl (rv_one 3 one24 rfl rfl rfl rv_nil)) rfl
        · cases hc2
    · rw [if_neg (by omega)]
      refine calls_of Tryz.func28 rfl Tryz.ntmps28 rfl (St.start w) (args := [.slice a ps.length c]) ?_
      refine cw_sr ?_
      refine steps_s (s_box1 1 rfl rfl rfl fun b1 => ?_)  -- simplex.go:170
      refine steps_s (s_allocA 2 rfl zer36 fun b2 => ?_)  -- simplex.go:170
      refine steps_s (s_alloc1 3 rfl zer24 rfl fun b3 => ?_)  -- simplex.go:170
      refine steps_nil ?_
      refine cw_seq ?_
      refine cw_sr ?_
      refine steps_q rfl (q_load1 1 one22 rfl rfl rfl) ?_  -- simplex.go:171
      refine steps_q rfl (q_lenSl Tryz.underlying22 rfl) ?_  -- simplex.go:171
      refine steps_q rfl (q_bin rfl rfl (lss_f (by omega))) ?_  -- simplex.go:171
      refine steps_q rfl (q_move rfl) ?_  -- simplex.go:171
      refine steps_gq rfl rfl rfl (q_load1 1 one22 rfl rfl rfl) ?_  -- simplex.go:171
      refine steps_gq rfl rfl rfl (q_lenSl Tryz.underlying22 rfl) ?_  -- simplex.go:171
      refine steps_gq rfl rfl rfl (q_bin rfl rfl (gtr_t (by omega))) ?_  -- simplex.go:171
      refine steps_q rfl (q_pick_f rfl rfl) ?_  -- simplex.go:171
      refine steps_nil ?_
      refine cw_cond _ rfl (fun hc1 => ?_) (fun hc1 => ?_)
      · -- yes 1
        refine cw_sr ?_
        refine steps_q rfl (q_build (vs := []) rfl rfl bldN0) ?_  -- simplex.go:172
        refine steps_s (s_storeW 2 siz36 rfl rfl rfl rfl rfl rfl ?_)  -- simplex.go:172
        refine steps_s (s_storeV 3 siz24 rfl rfl rfl rfl rfl ?_)  -- simplex.go:172
        refine steps_nil ?_
        refine cw_ret ?_
        exact ret_pure rfl (rv_agg 2 agg36 rfl rfl rfl (rv_one 3 one24 rfl rfl rfl rv_nil)) rfl
      · cases hc1
  · rw [if_neg (by omega)]
    refine calls_of Tryz.func28 rfl Tryz.ntmps28 rfl (St.start w) (args := [.slice a ps.length c]) ?_
    refine cw_sr ?_
    refine steps_s (s_box1 1 rfl rfl rfl fun b1 => ?_)  -- simplex.go:170
    refine steps_s (s_allocA 2 rfl zer36 fun b2 => ?_)  -- simplex.go:170
    refine steps_s (s_alloc1 3 rfl zer24 rfl fun b3 => ?_)  -- simplex.go:170
    refine steps_nil ?_
    refine cw_seq ?_
    refine cw_sr ?_
    refine steps_q rfl (q_load1 1 one22 rfl rfl rfl) ?_  -- simplex.go:171
    refine steps_q rfl (q_lenSl Tryz.underlying22 rfl) ?_  -- simplex.go:171
    refine steps_q rfl (q_bin rfl rfl (lss_t (by omega))) ?_  -- simplex.go:171
    refine steps_q rfl (q_move rfl) ?_  -- simplex.go:171
    refine steps_gn rfl rfl rfl rfl ?_  -- simplex.go:171
    refine steps_gn rfl rfl rfl rfl ?_  -- simplex.go:171
    refine steps_gn rfl rfl rfl rfl ?_  -- simplex.go:171
    refine steps_q rfl (q_pick_t rfl rfl) ?_  -- simplex.go:171
    refine steps_nil ?_
    refine cw_cond _ rfl (fun hc1 => ?_) (fun hc1 => ?_)
    · -- yes 1
      refine cw_sr ?_
      refine steps_q rfl (q_build (vs := []) rfl rfl bldN0) ?_  -- simplex.go:172
      refine steps_s (s_storeW 2 siz36 rfl rfl rfl rfl rfl rfl ?_)  -- simplex.go:172
      refine steps_s (s_storeV 3 siz24 rfl rfl rfl rfl rfl ?_)  -- simplex.go:172
      refine steps_nil ?_
      refine cw_ret ?_
      exact ret_pure rfl (rv_agg 2 agg36 rfl rfl rfl (rv_one 3 one24 rfl rfl rfl rv_nil)) rfl
    · cases hc1

/-- What the range of Near knows between its rounds. -/
def nearL (b1 b2 b3 b4 : Nat) (v : Value) (n : Int) (m : Nr) : HL := [(1, (b1, .cells [v].toArray 22 (0, 0))), (2, (b2, .cells m.l.toArray 36 (0, 0))), (3, (b3, .cells [.int .i64 0].toArray 24 (0, 0))), (54, (b4, .cells [.int .i64 n].toArray 3 (0, 0)))]
def nearJ (ps : List Pt) (base : HL) (i : Nat) (Lc : HL) : Prop := Lc = base ∧ ∀ (j : Nat) c, j < i → (choicesI ps.length)[j]? = some c → testB ps c = false
def nearX (ps : List Pt) (base : Nr → HL) (i : Nat) (x : List Value) (code : Code) (Lc : HL) : Prop := code = .ret ∧ ∃ c g cap, (choicesI ps.length)[i]? = some c ∧ x = [.slice (some ⟨g, 0, none⟩) c.length cap] ∧ testB ps c = true ∧
  Lc = base ⟨(nrOf (sel ps c)).n, (nrOf (sel ps c)).d, .slice (some ⟨g, 0, none⟩) c.length cap⟩
theorem nearJ_next {ps : List Pt} {base : HL} {i : Nat} {c : List Int} (h : ∀ (j : Nat) c, j < i → (choicesI ps.length)[j]? = some c → testB ps c = false) (hc : (choicesI ps.length)[i]? = some c) (hf : testB ps c = false) : nearJ ps base (i + 1) base :=
  ⟨rfl, fun j d hj hd => by
    by_cases e : j = i
    · subst e; rw [hc] at hd; cases hd; exact hf
    · exact h j d (by omega) hd⟩
theorem nearJ_none {ps : List Pt} {base Lc : HL} (h1 : 1 ≤ ps.length) (h4 : ps.length ≤ 4) (h : nearJ ps base (choicesI ps.length).length Lc) : False := by
  obtain ⟨c, hc, ht⟩ := near_found h1 h4
  obtain ⟨j, hj⟩ := List.mem_iff_getElem?.1 hc
  have := h.2 j c (List.getElem?_eq_some_iff.1 hj).1 hj
  rw [ht] at this; cases this

set_option maxHeartbeats 8000000 in
theorem simplex_Near_ok {ps : List Pt} {v : Value} (w : World) (hv : PtsAt w v ps) (hok : okPts ps) (h1 : 1 ≤ ps.length) (h4 : ps.length ≤ 4) :
    Calls Tryz.prog 28 #[v] w fun e w' => ∃ v Ln, e = .returned v ∧ NR ps v Ln ∧ St w [] w' Ln := by
  have hv0 := hv
  obtain ⟨a, c0, rfl, hs⟩ := hv
  rw [List.length_map] at hv0 ⊢
  have p0 := ptI_get (ps := ps) (Int.le_refl 0) (by omega)
  have p0l : (ps.map Pt.l)[(0 : Int).toNat]? = some (ptI ps 0).l := by rw [List.getElem?_map, p0]; rfl
  obtain ⟨bl, off, l0, fz, rfl, hb, hpt⟩ := hs.resolve_left (by intro h; rw [h] at p0l; simp at p0l)
  have hblt : bl < w.heap.size := (Array.getElem?_eq_some_iff.1 hb).1
  have hn4 : N4 ps.length := n4 (by omega) (by omega)
  have he := errPts_ok hok (by omega)
  refine calls_ofM Tryz.func28 rfl Tryz.ntmps28 rfl (St.start w) (args := [.slice (some ⟨bl, off, none⟩) ps.length c0]) ?_
  refine cw_sr ?_
  refine steps_s (s_box1 1 rfl rfl rfl fun b1 => ?_)  -- simplex.go:170
  refine steps_s (s_allocA 2 rfl zer36 fun b2 => ?_)  -- simplex.go:170
  refine steps_s (s_alloc1 3 rfl zer24 rfl fun b3 => ?_)  -- simplex.go:170
  refine steps_nil ?_
  refine cw_seq ?_
  refine cw_sr ?_
  refine steps_q rfl (q_load1 1 one22 rfl rfl rfl) ?_  -- simplex.go:171
  refine steps_q rfl (q_lenSl Tryz.underlying22 rfl) ?_  -- simplex.go:171
  refine steps_q rfl (q_bin rfl rfl (lss_f (by omega))) ?_  -- simplex.go:171
  refine steps_q rfl (q_move rfl) ?_  -- simplex.go:171
  refine steps_gq rfl rfl rfl (q_load1 1 one22 rfl rfl rfl) ?_  -- simplex.go:171
  refine steps_gq rfl rfl rfl (q_lenSl Tryz.underlying22 rfl) ?_  -- simplex.go:171
  refine steps_gq rfl rfl rfl (q_bin rfl rfl (gtr_f (by omega))) ?_  -- simplex.go:171
  refine steps_q rfl (q_pick_f rfl rfl) ?_  -- simplex.go:171
  refine steps_nil ?_
  refine cw_cond _ rfl (fun hc1 => ?_) (fun hc1 => ?_)
  · cases hc1
  · -- no 1
    refine cw_skip ?_
    refine at_then ?_
    refine cw_seq ?_
    refine cw_sr ?_
    refine steps_q rfl (q_load1 1 one22 rfl rfl rfl) ?_  -- simplex.go:174
    refine steps_q rfl (q_call ent40 rfl rfl (fun w' hw => by simpa using orient_Rank w' (SlAt.st hv0 hw) (by omega))) ?_  -- simplex.go:174
    refine steps_q rfl (q_move rfl) ?_  -- simplex.go:174
    refine steps_q rfl (q_extract rfl rfl) ?_  -- simplex.go:174
    refine steps_q rfl (q_extract rfl rfl) ?_  -- simplex.go:174
    refine steps_q rfl (q_assign rfl) ?_  -- simplex.go:174
    refine steps_q rfl (q_assign rfl) ?_  -- simplex.go:174
    refine steps_nil ?_
    refine cw_sr ?_
    refine steps_q rfl (q_move rfl) ?_  -- simplex.go:174
    refine steps_q rfl (q_bin rfl rfl (neq_f he)) ?_  -- simplex.go:174
    refine steps_nil ?_
    refine cw_cond _ rfl (fun hc2 => ?_) (fun hc2 => ?_)
    · cases hc2
    · -- no 2
      refine cw_skip ?_
      refine at_then ?_
      refine cw_seq ?_
      refine cw_sr ?_
      refine steps_q rfl (q_load1 1 one22 rfl rfl rfl) ?_  -- simplex.go:177
      refine steps_q rfl (q_lenSl Tryz.underlying22 rfl) ?_  -- simplex.go:177
      refine steps_s (s_callSt ent41 rfl rfl rfl (R := fun v Ln => ∃ b, v = .func (.func 64) #[] #[.pointer (some ⟨b, 0, none⟩)] ∧ Ln = [(54, (b, .cells [.int .i64 ps.length].toArray 3 (0, 0)))]) (fun w' hw => by simpa using simplex_choices ps.length w') fun v Ln hZ => ?_)  -- simplex.go:177
      obtain ⟨b54, rfl, rfl⟩ := hZ
      refine steps_nil ?_
      refine cw_block ?_
      refine cw_rangeX (nearJ ps (nearL b1 b2 b3 b54 (.slice (some ⟨bl, off, none⟩) ps.length c0) ps.length nrZ)) (nearX ps (nearL b1 b2 b3 b54 (.slice (some ⟨bl, off, none⟩) ps.length c0) ps.length)) (nearL b1 b2 b3 b54 (.slice (some ⟨bl, off, none⟩) ps.length c0) ps.length nrZ)
        rfl ent64 (simplex_choices1 b54 hn4) (fun i x Lo hX => by obtain ⟨_, _, _, _, _, _, rfl, _⟩ := hX; rfl) rfl (fun i Lc hJ => by obtain ⟨rfl, _⟩ := hJ; rfl) (fun i Lc a b hJ => by obtain ⟨rfl, _⟩ := hJ; exact rfl) ⟨rfl, fun j c hj => by omega⟩ (subs ⟨rfl, rfl, rfl, rfl, trivial⟩) ?_ ?_ ?_
      · -- a round of 1
        intro l nD rc i x Lo Lc hi hX ho hJ W hW
        obtain ⟨rfl, hprev⟩ := hJ
        obtain ⟨c, g, cur, cap, jj, hcj, rfl, hgj, hsv⟩ := hX
        have hbk : okL (recL l nD { rc with state := .ready, pending := none } (nearL b1 b2 b3 b54 (.slice (some ⟨bl, off, none⟩) ps.length c0) ps.length nrZ)) = true := rfl
        have hgW := round_gW hW hgj
        have hgM := round_gM hW ho hbk hgj
        have hblW : W.heap[bl]? = some (.cells l0.toArray fz.1 fz.2) := (hW.below.block bl hblt).trans hb
        have hblM := round_ge hW ho hbk hblt
        have hold : ∀ {L : HL} {W' : World}, St W (blocks (recL l nD { rc with state := .ready, pending := none } (nearL b1 b2 b3 b54 (.slice (some ⟨bl, off, none⟩) ps.length c0) ps.length nrZ))) W' L → PtsAt W' (.slice (some ⟨bl, off, none⟩) ps.length c0) ps := fun h' => SlAt.below hv0 (round_old hW ho hbk h')
        obtain ⟨cl1, cl4, clk, -⟩ := choice_len hn4 (List.mem_of_getElem? hcj)
        have hsok := sel_ok hok clk
        have hse := errPts_ok hsok (by rw [sel_len]; omega)
        have hsl := sel_len ps c
        refine cw_region ?_
        refine steps_q rfl (q_assign rfl) ?_  -- simplex.go:177
        refine steps_nil ?_
        refine at_begin (i := 900) rfl rfl ?_
        refine cw_block ?_
        refine cw_sr ?_
        refine steps_q rfl (q_assign rfl) ?_  -- simplex.go:178
        refine steps_nil ?_
        refine cw_seq ?_
        refine cw_sr ?_
        refine steps_q rfl (q_move rfl) ?_  -- simplex.go:179
        refine steps_q rfl (q_lenSl Tryz.underlying34 rfl) ?_  -- simplex.go:179
        refine steps_q rfl (q_move rfl) ?_  -- simplex.go:179
        refine steps_nil ?_
        refine cw_block ?_
        -- LOOP 1 writes [7, 9, 38, 39, 40, 41, 42, 43, 44, 45, 46, 47, 48, 49]  stores via []  reads [1, 36, 37]
        refine cw_loop (S := Nat × SV) (fun s => [(1, .pointer (some ⟨b1, 0, none⟩)), (2, .pointer (some ⟨b2, 0, none⟩)), (3, .pointer (some ⟨b3, 0, none⟩)), (6, .slice (some ⟨g, 0, none⟩) c.length cap), (7, s.2.v s.1), (36, .slice (some ⟨g, 0, none⟩) c.length cap), (37, .int .i64 c.length), (38, .int .i64 s.1)]) (fun s => s.2.l 61 47 ++ (900, (l, .loop { rc with state := .busy, pending := none })) :: (901, (nD, .deferred (some []))) :: (nearL b1 b2 b3 b54 (.slice (some ⟨bl, off, none⟩) ps.length c0) ps.length nrZ)) (fun s => s.1 ≤ c.length ∧ s.2.ok 3 (((sel ps c).take s.1).map Pt.l)) (fun s => c.length - s.1) (0, none) ⟨by dsimp only; omega, by simp [SV.ok]⟩ (subs ⟨rfl, rfl, rfl, rfl, rfl, rfl, rfl, rfl, trivial⟩) (subs ⟨rfl, rfl, rfl, rfl, rfl, rfl, trivial⟩) ?_
        rintro ⟨k, sv⟩ ⟨k1, hsk⟩
        dsimp only at k1 hsk
        conv => enter [7]; dsimp only
        conv => enter [8]; dsimp only
        have hkl : (((sel ps c).take k).map Pt.l).length = k := by rw [List.length_map, List.length_take, hsl]; omega
        refine cw_sr ?_
        refine steps_q rfl (q_bin rfl rfl rfl) ?_  -- simplex.go:179
        refine steps_nil ?_
        refine cw_seq ?_
        refine cw_cond _ rfl (fun hc3 => ?_) (fun hc3 => ?_)
        · -- yes 3
          have hk : (k : Int) < (c.length : Int) := of_decide_eq_true hc3
          obtain ⟨m, hm⟩ : ∃ m, c[k]? = some m := ⟨c[k]'(by omega), List.getElem?_eq_getElem (by omega)⟩
          have hml : (c.map intC)[(k : Int).toNat]? = some (intC m) := by rw [Int.toNat_natCast, List.getElem?_map, hm]; rfl
          have hmb := clk m (List.mem_of_getElem? hm)
          have pm := ptI_get (ps := ps) hmb.1 hmb.2
          have pml : (ps.map Pt.l)[m.toNat]? = some (ptI ps m).l := by rw [List.getElem?_map, pm]; rfl
          have hsm : (sel ps c)[k]? = some (ptI ps m) := by rw [sel, List.getElem?_map, hm]; rfl
          have htk : ((sel ps c).take (k + 1)).map Pt.l = ((sel ps c).take k).map Pt.l ++ [(ptI ps m).l] := by rw [List.take_add_one, hsm, List.map_append]; rfl
          refine cw_skip ?_
          refine at_then ?_
          refine cw_seq ?_
          refine cw_block ?_
          refine cw_sr ?_
          refine steps_q rfl (q_indexSl slc34 rfl rfl (by omega) (by omega)) ?_  -- simplex.go:179
          refine steps_q rfl (q_load1o one3 rfl hgW hgM (part1 (SV.part hsv hml))) ?_  -- simplex.go:179
          refine steps_q rfl (q_assign rfl) ?_  -- simplex.go:179
          refine steps_nil ?_
          rcases sv with _ | ⟨g1, cur1, cap1⟩
          · -- way 12.a
            refine cw_region ?_
            refine steps_q rfl (q_move rfl) ?_  -- simplex.go:180
            refine steps_q rfl (q_load1 1 one22 rfl rfl rfl) ?_  -- simplex.go:180
            refine steps_q rfl (q_move rfl) ?_  -- simplex.go:180
            refine steps_q rfl (q_indexSl slc22 rfl rfl hmb.1 (by omega)) ?_  -- simplex.go:180
            refine steps_q rfl (q_loadAo agg47 rfl hblW hblM (hpt _ _ pml)) ?_  -- simplex.go:180
            refine steps_s (s_buildSl 47 rfl rfl rfl (bslP (ptI ps m)) fun b47 => ?_)  -- simplex.go:180
            refine steps_s (s_appendN 61 47 none k (((sel ps c).take k).map Pt.l) (ptI ps m).l hkl elt22 rfl rfl hsk (subs trivial) rfl rfl rfl rfl (by omega) (by unfold maxLen; omega) fun g1 cur1 cap1 hk1 => ?_)  -- simplex.go:180
            refine steps_q rfl (q_assign rfl) ?_  -- simplex.go:180
            refine steps_nil ?_
            refine at_then ?_
            refine cw_region ?_
            refine steps_q rfl (q_bin rfl rfl (add64 (by omega) (by omega))) ?_  -- simplex.go:179
            refine steps_q rfl (q_move rfl) ?_  -- simplex.go:179
            refine steps_nil ?_
            exact at_round (k + 1, some (g1, cur1, cap1)) ⟨by dsimp only; omega, by dsimp only; rw [htk]; exact hk1⟩ (by dsimp only; omega) (subs ⟨rfl, rfl, rfl, rfl, rfl, rfl, rfl, by dsimp only; rw [show ((k + 1 : Nat) : Int) = k + 1 by omega]; rfl, trivial⟩) (subs ⟨rfl, rfl, rfl, rfl, rfl, rfl, rfl, trivial⟩)
          · -- way 12.b
            refine cw_region ?_
            refine steps_q rfl (q_move rfl) ?_  -- simplex.go:180
            refine steps_q rfl (q_load1 1 one22 rfl rfl rfl) ?_  -- simplex.go:180
            refine steps_q rfl (q_move rfl) ?_  -- simplex.go:180
            refine steps_q rfl (q_indexSl slc22 rfl rfl hmb.1 (by omega)) ?_  -- simplex.go:180
            refine steps_q rfl (q_loadAo agg47 rfl hblW hblM (hpt _ _ pml)) ?_  -- simplex.go:180
            refine steps_s (s_buildSl 47 rfl rfl rfl (bslP (ptI ps m)) fun b47 => ?_)  -- simplex.go:180
            refine steps_s (s_appendN 61 47 (some (g1, cur1, cap1)) k (((sel ps c).take k).map Pt.l) (ptI ps m).l hkl elt22 rfl rfl hsk (subs ⟨rfl, trivial⟩) rfl rfl rfl rfl (by omega) (by unfold maxLen; omega) fun g1 cur1 cap1 hk1 => ?_)  -- simplex.go:180
            refine steps_q rfl (q_assign rfl) ?_  -- simplex.go:180
            refine steps_nil ?_
            refine at_then ?_
            refine cw_region ?_
            refine steps_q rfl (q_bin rfl rfl (add64 (by omega) (by omega))) ?_  -- simplex.go:179
            refine steps_q rfl (q_move rfl) ?_  -- simplex.go:179
            refine steps_nil ?_
            exact at_round (k + 1, some (g1, cur1, cap1)) ⟨by dsimp only; omega, by dsimp only; rw [htk]; exact hk1⟩ (by dsimp only; omega) (subs ⟨rfl, rfl, rfl, rfl, rfl, rfl, rfl, by dsimp only; rw [show ((k + 1 : Nat) : Int) = k + 1 by omega]; rfl, trivial⟩) (subs ⟨rfl, rfl, rfl, rfl, rfl, rfl, rfl, trivial⟩)
        · -- no 3
          have hk : ¬ (k : Int) < (c.length : Int) := of_decide_eq_false hc3
          have hkc : k = c.length := by omega
          subst hkc
          rw [List.take_of_length_le (by omega)] at hsk hkl
          rcases sv with _ | ⟨g1, cur1, cap1⟩
          · exfalso
            have := SV.len0 hsk
            omega
          have hsel : ∀ {L : HL} {W' : World}, St W (blocks (recL l nD { rc with state := .ready, pending := none } (nearL b1 b2 b3 b54 (.slice (some ⟨bl, off, none⟩) ps.length c0) ps.length nrZ))) W' L → NP.look L 61 = some (g1, .cells cur1.toArray 47 (0, 0)) → PtsAt W' (.slice (some ⟨g1, 0, none⟩) c.length cap1) (sel ps c) := fun h' hl => by
            have := SlAt.own (q := some (g1, cur1, cap1)) (i := 61) (e := 47) h' (subs ⟨hl, trivial⟩) hsk
            rwa [hkl] at this
          refine cw_exit ?_
          refine at_then ?_
          refine cw_seq ?_
          refine cw_sr ?_
          refine steps_q rfl (q_move rfl) ?_  -- simplex.go:182
          refine steps_q rfl (q_call ent40 rfl rfl (fun w' hw => by simpa using orient_Rank w' (hsel hw rfl) (by rw [hsl]; omega))) ?_  -- simplex.go:182
          rw [if_pos hse, hse]
          refine steps_q rfl (q_move rfl) ?_  -- simplex.go:182
          refine steps_q rfl (q_extract rfl rfl) ?_  -- simplex.go:182
          refine steps_q rfl (q_extract rfl rfl) ?_  -- simplex.go:182
          refine steps_q rfl (q_assign rfl) ?_  -- simplex.go:182
          refine steps_q rfl (q_assign rfl) ?_  -- simplex.go:182
          refine steps_nil ?_
          refine cw_sr ?_
          refine steps_q rfl (q_move rfl) ?_  -- simplex.go:182
          refine steps_q rfl (q_move rfl) ?_  -- simplex.go:182
          refine steps_q rfl (q_lenSl Tryz.underlying22 rfl) ?_  -- simplex.go:182
          refine steps_q rfl (q_bin rfl rfl (sub64 (by omega) (by omega))) ?_  -- simplex.go:182
          refine steps_q rfl (q_bin rfl rfl rfl) ?_  -- simplex.go:182
          refine steps_nil ?_
          refine cw_cond _ rfl (fun hc4 => ?_) (fun hc4 => ?_)
          · -- yes 4
            have hr : rankI (sel ps c) ≠ c.length - 1 := by simpa using hc4
            have hf : testB ps c = false := by unfold testB; rw [show decide (rankI (sel ps c) = (sel ps c).length - 1) = false by rw [hsl]; exact decide_eq_false hr]; rfl
            refine cw_exit ?_
            exact at_yes _ (nearJ_next hprev hcj hf) rfl (subs ⟨rfl, rfl, rfl, rfl, rfl, rfl, trivial⟩) rfl
          · -- no 4
            have hr : rankI (sel ps c) = c.length - 1 := by simpa using hc4
            have hd0 := (rank_full (T := sel ps c) (by omega) (by omega)).1 (by rw [hsl]; exact hr)
            have hd1 := dI_nn (T := sel ps c) (by omega) (by omega)
            have htest : testB ps c = nearB ps (sel ps c) := by unfold testB; rw [show decide (rankI (sel ps c) = (sel ps c).length - 1) = true by rw [hsl]; exact decide_eq_true hr]; rfl
            refine cw_skip ?_
            refine at_then ?_
            refine cw_sr ?_
            refine steps_q rfl (q_load1 1 one22 rfl rfl rfl) ?_  -- simplex.go:185
            refine steps_q rfl (q_move rfl) ?_  -- simplex.go:185
            refine steps_q rfl (q_call ent42 rfl rfl (fun w' hw => by simpa using simplex_nearest w' (hold hw) (hsel hw rfl) hok (by omega) hsok (by omega) (by omega) (by omega))) ?_  -- simplex.go:185
            refine steps_q rfl (q_move rfl) ?_  -- simplex.go:185
            refine steps_q rfl (q_extract rfl rfl) ?_  -- simplex.go:185
            refine steps_q rfl (q_extract rfl rfl) ?_  -- simplex.go:185
            refine steps_s (s_allocA 12 rfl zer36 fun b12 => ?_)  -- simplex.go:185
            refine steps_s (s_storeW 12 siz36 rfl rfl rfl rfl (by split <;> rfl) (by split <;> rfl) ?_)  -- simplex.go:185
            refine steps_q rfl (q_assign rfl) ?_  -- simplex.go:185
            refine steps_nil ?_
            refine cw_sr ?_
            refine steps_q rfl (q_move rfl) ?_  -- simplex.go:185
            refine steps_nil ?_
            refine cw_cond _ rfl (fun hc5 => ?_) (fun hc5 => ?_)
            · -- yes 5
              have hnb : nearB ps (sel ps c) = true := hc5
              rw [hnb, if_pos rfl]
              refine cw_sr ?_
              refine steps_q rfl (q_move rfl) ?_  -- simplex.go:186
              refine steps_q rfl (q_field fld36_2 rfl) ?_  -- simplex.go:186
              refine steps_s (s_store1 12 siz34 rfl rfl rfl rfl rfl (show 33 ≤ 33 from Nat.le_refl _) rfl ?_)  -- simplex.go:186
              refine steps_nil ?_
              refine cw_sr ?_
              refine steps_q rfl (q_loadW 12 agg36 rfl rfl rfl) ?_  -- simplex.go:187
              refine steps_s (s_storeW 2 siz36 rfl rfl rfl rfl rfl rfl ?_)  -- simplex.go:187
              refine steps_s (s_storeV 3 siz24 rfl rfl rfl rfl rfl ?_)  -- simplex.go:187
              refine steps_nil ?_
              refine cw_ret ?_
              exact at_no _ ⟨rfl, c, g, cap, hcj, rfl, by rw [htest, hnb], rfl⟩ rfl (subs ⟨rfl, rfl, rfl, rfl, rfl, rfl, trivial⟩) rfl
            · -- no 5
              have hnb : nearB ps (sel ps c) = false := hc5
              have hf : testB ps c = false := by rw [htest, hnb]
              refine cw_skip ?_
              exact at_yes _ (nearJ_next hprev hcj hf) rfl (subs ⟨rfl, rfl, rfl, rfl, rfl, rfl, trivial⟩) rfl
      · -- behind range 1
        intro nD Lc hJ
        exact (nearJ_none h1 h4 hJ).elim
      · -- stopped 1
        rintro nD i x Lo code Lc hX ho ⟨rfl, c, g, cap, hc, rfl, ht, rfl⟩
        obtain ⟨c', g', cur, cap', j, hc', hx, hgj, hsv⟩ := hX
        rw [hc] at hc'
        cases hc'
        simp only [List.cons.injEq, Value.slice.injEq, Option.some.injEq, Addr.mk.injEq, and_true] at hx
        obtain ⟨rfl, -, rfl⟩ := hx
        refine CW.ren _ (L' := (901, (nD, .deferred (some []))) :: (63, (g, .cells cur.toArray 3 (0, 0))) :: [(2, (b2, .cells (Nr.l ⟨(nrOf (sel ps c)).n, (nrOf (sel ps c)).d, .slice (some ⟨g, 0, none⟩) c.length cap⟩).toArray 36 (0, 0))), (3, (b3, .cells [.int .i64 0].toArray 24 (0, 0)))]) ?_ (ren_stop ho hgj (subs ⟨rfl, rfl, trivial⟩) ?_)
        · refine cw_ret ?_
          exact at_retM rfl rfl (rv_agg 2 agg36 rfl rfl rfl (rv_one 3 one24 rfl rfl rfl rv_nil)) fun w' hw => ⟨_, _, rfl, ⟨c, g, cur, cap, List.mem_of_getElem? hc, ht, rfl, rfl, hsv⟩, hw.weaken (subs ⟨rfl, trivial⟩)⟩
        · intro i y hi
          rw [look_cons] at hi
          split at hi
          · omega
          · rw [look_cons] at hi
            split at hi
            · omega
            · simp [NP.look] at hi
end Go.Proofs.YtomdahjakkifbaaGreat

/-
  Appending a slice that is told; a slice against nil.
-/
namespace Go.NP
open Go Go.RowKit
section
variable {P : Program} {w0 : World} {M : List Nat} {N : Nat} {D : Dfr} {T : TL} {L : HL} {Q : Exit → Act → World → Prop}

theorem run_equalIn_slnil {t e : TypeId} (hS : P.underlying t = some (.slice e)) (k : Nat) (a : Option Addr) (n c : Nat) (w : World) : (Op.equalIn (k + 1) t (.slice a n c) (.slice none 0 0)).run P w = .ok a.isNone w := by
  cases a <;> simp [Op.equalIn, run_underlying hS]
theorem run_eql_slnil {t e : TypeId} (hS : P.underlying t = some (.slice e)) (a : Option Addr) (n c : Nat) (w : World) : (Op.equal t (.slice a n c) (.slice none 0 0)).run P w = .ok a.isNone w := run_equalIn_slnil hS 9999 a n c w
theorem q_slnil {d : Option Tmp} {x : Operand} {a0 : Option Addr} {n c : Nat} {t t' t'' e : TypeId} {p : String} {af : Array Edge} {g : Option (Nat × Bool)} (hS : P.underlying t = some (.slice e)) (hx : ev T x = some (.slice a0 n c)) :
    Quiet P w0 M N D { dst := d, op := .binOp .eql t x (.const (.slice none 0 0)) t', type := t'', pos := p, after := af, guard := g } T L (.bool a0.isNone) :=
  q_run fun a w ha _ => by
    have hg : (eqGuard .eql t x (.const (.slice none 0 0)) (.slice a0 n c) (.slice none 0 0)).run P w = .ok () w := by simp [eqGuard]
    have h2 : a.eval (.const (.slice none 0 0)) = .slice none 0 0 := rfl
    have hb : (binOp .eql t (.slice a0 n c) (.slice none 0 0)).run P w = .ok (.bool a0.isNone) w := by
      show (do pure (.bool (← Op.equal t (.slice a0 n c) (.slice none 0 0))) : Sem Value).run P w = _
      rw [Sem.run_bind, run_eql_slnil hS]; rfl
    simp only [execOp, ha.ev hx, h2, Sem.run_bind, hg, hb, Result.andThen_ok, Sem.run_pure]

/-- append(s, y...): of a slice of one's own, by elements that are told. -/
theorem s_appendM (i : Nat) (s : SV) (n m : Nat) (xs ys : List (List Value)) (hn : xs.length = n) (hm : ys.length = m) {d : Nat} {a b : Operand} {t e : TypeId} {z : Value} {sz bytes : Nat} {by' off c : Nat} {t' : TypeId} {p : String} {af : Array Edge} {g : Option (Nat × Bool)} {K : TL → HL → Prop} {Q : Exit → Act → World → Prop}
    (hE : Elt P t e z sz bytes) (hN : Nat.blt d N = true) (hs : ev T a = some (s.v n)) (hok : s.ok sz xs) (hl : SubL (s.l i e) L) (hy : ev T b = some (.slice (some ⟨by', off, none⟩) m c))
    (hyl : ∀ w, St w0 M w L → ∃ (l : List Value) (fz : TypeId × Nat × Nat), w.heap[by']? = some (.cells l.toArray fz.1 fz.2) ∧ ∀ k x, ys[k]? = some x → Part l (off + k * sz) sz x) (h1 : ∀ x ∈ ys, x.all (·.oneCell') = true)
    (hlen : (n + m) * bytes ≤ 140737488355328) (hlen2 : n + m ≤ maxLen) (hpos : 0 < n + m)
    (k : ∀ g cur cap, SV.ok sz (some (g, cur, cap)) (xs ++ ys) → K ((d, .slice (some ⟨g, 0, none⟩) (n + m) cap) :: T) ((i, (g, .cells cur.toArray e (0, 0))) :: L)) :
    Step P w0 M N D { dst := some d, op := .call { callee := .builtin .append, args := #[a, b], argTypes := #[t, t] }, type := t', pos := p, after := af, guard := g } T L K Q := by
  subst hn hm
  intro ac w ha hw
  obtain ⟨hu, hi, hz, hsz⟩ := hE
  obtain ⟨inf, hinf, hpr⟩ := Option.map_eq_some_iff.1 hi
  have q1 : inf.zero = some z := congrArg (·.1) hpr
  have q2 : inf.size = sz := congrArg (·.2.1) hpr
  have q3 : inf.bytes = bytes := congrArg (·.2.2) hpr
  have hown : w.ownsRow 0 e sz (s.v xs.length) xs.length xs.flatten := by
    cases s with
    | none => simp only [SV.ok] at hok; subst hok; exact ⟨by simp, .inl ⟨rfl, rfl⟩⟩
    | some q =>
      obtain ⟨g, cur, cap⟩ := q
      obtain ⟨o1, o2, o3, o4, o5⟩ := hok
      exact ⟨flatten_len o5, .inr ⟨g, cap, cur.toArray, rfl, Nat.zero_le _, (hw.known i g _ (hl i _ (by simp [look]))).1, o2, o3, by simpa using o1, by simpa using o4⟩⟩
  obtain ⟨l, fz, hyw, hparts⟩ := hyl w hw
  have hys : ∀ x ∈ ys, x.length = sz := fun x hx => by
    obtain ⟨j, hj⟩ := List.mem_iff_getElem?.1 hx
    exact (hparts j x hj).2
  have hfl := flatten_len hys
  have hcell : ∀ (m : Nat) (u : Value), ys.flatten[m]? = some u → w.cell? ((⟨by', off, none⟩ : Addr).add m) = some u := fun m u hm => by
    have hlt := (List.getElem?_eq_some_iff.1 hm).1
    rw [hfl] at hlt
    have hq : m / sz < ys.length := (Nat.div_lt_iff_lt_mul hsz).2 hlt
    have hx : ys[m / sz]? = some ys[m / sz] := List.getElem?_eq_getElem hq
    have h1 := flatten_part hys hx
    have h2 := (hparts _ _ hx).1
    have hmod := Nat.mod_lt m hsz
    have em : m / sz * sz + m % sz = m := by rw [Nat.mul_comm]; exact Nat.div_add_mod m sz
    have e1 : ys[m / sz][m % sz]? = ys.flatten[m]? := by
      rw [← h1, List.getElem?_take, if_pos hmod, List.getElem?_drop, em]
    have e2 : ys[m / sz][m % sz]? = l[off + m]? := by
      rw [← h2, List.getElem?_take, if_pos hmod, List.getElem?_drop, Nat.add_assoc, em]
    rw [Addr.add_none]
    have : l[off + m]? = some u := by rw [← e2, e1, hm]
    simp [World.cell?, hyw, this]
  have h1f : ∀ u ∈ ys.flatten, u.oneCell' = true := fun u hu => by
    obtain ⟨x, hx, hux⟩ := List.mem_flatten.1 hu
    exact List.all_eq_true.1 (h1 x hx) u hux
  obtain ⟨v', w', hrun, hown', hgrow, _, hblk⟩ := run_append_own_at (P := P) (w := w) 0 t t' e inf z sz bytes hu hinf q1 q2 q3 hz hsz (s.v xs.length) xs.length xs.flatten hown ⟨by', off, none⟩ ys.length c ys.flatten hfl hcell h1f hlen2 hlen (Nat.zero_le _)
  refine wpIn_of_wp (fun c h => by cases h) ?_
  unfold Oper.wp
  have hr : (execOp ac.eval { dst := some d, op := .call { callee := .builtin .append, args := #[a, b], argTypes := #[t, t] }, type := t', pos := p, after := af, guard := g }).run P w = .ok (.value v') w' := by
    simp [execOp, resolve, invoke, builtin, ha.ev hs, ha.ev hy, hrun, Result.andThen]
  rw [hr]
  obtain ⟨_, hcase⟩ := hown'
  rcases hcase with ⟨_, hz0⟩ | ⟨g', cap, cur, hv', _, hg', c1, c2, c3, c4⟩
  · omega
  · subst hv'
    have hxs5 : ∀ y ∈ xs, y.length = sz := by
      cases s with
      | none => simp only [SV.ok] at hok; subst hok; simp
      | some q => exact hok.2.2.2.2
    have hok' : SV.ok sz (some (g', cur.toList, cap)) (xs ++ ys) := by
      refine ⟨by simpa using c3, by simpa using c1, c2, ?_, fun y hy' => ?_⟩
      · rw [List.length_append, c4]; simp
      · rcases List.mem_append.1 hy' with hm | hm
        · exact hxs5 y hm
        · exact hys y hm
    refine ⟨_, _, ha.put (by simpa [Nat.blt_eq] using hN) _, hw.regrow (i := i) (g := g') (o' := .cells cur.toList.toArray e (0, 0)) hgrow (fun r hr' => ?_) (by simpa using hg') ?_, k g' cur.toList cap hok'⟩
    · cases s with
      | none => simp [Value.ownBlock] at hr'
      | some q =>
        obtain ⟨g0, cur0, cap0⟩ := q
        simp only [Value.ownBlock, Option.some.injEq] at hr'
        subst hr'
        exact ⟨.cells cur0.toArray e (0, 0), hl i _ (by simp [look])⟩
    · rcases hblk with hb | hb
      · left; rw [← hb]; rfl
      · right; simpa [Value.ownBlock] using hb
end
end Go.NP

/-
  The walks of Go's library: comparing and sorting a few whole numbers, cloning a slice.
-/
namespace Go.Proofs.YtomdahjakkifbaaGreat
open Go Go.NP Go.RowKit Go.Proofs
set_option maxRecDepth 100000

theorem isNaN_int (x : Int) : PureF Tryz.prog 161 [.int .i64 x] (.bool false) := by
  refine pure_of Tryz.func161 rfl Tryz.ntmps161 rfl fun w => ?_
  refine cw_sr ?_
  refine steps_q rfl (q_assign rfl) ?_  -- cmp.go:63
  refine steps_nil ?_
  refine cw_sr ?_
  refine steps_q rfl (q_move rfl) ?_  -- cmp.go:64
  refine steps_q rfl (q_move rfl) ?_  -- cmp.go:64
  refine steps_q rfl (q_bin rfl rfl (neq_f rfl)) ?_  -- cmp.go:64
  refine steps_q rfl (q_assign rfl) ?_  -- cmp.go:64
  refine steps_nil ?_
  refine cw_ret ?_
  exact ret_pure rfl (rv_tmp rfl rv_nil) rfl
theorem less_int (x y : Int) : PureF Tryz.prog 133 [.int .i64 x, .int .i64 y] (.bool (decide (x < y))) := by
  refine pure_of Tryz.func133 rfl Tryz.ntmps133 rfl fun w => ?_
  refine cw_sr ?_
  refine steps_q rfl (q_assign rfl) ?_  -- cmp.go:28
  refine steps_nil ?_
  refine cw_sr ?_
  refine steps_q rfl (q_move rfl) ?_  -- cmp.go:29
  refine steps_q rfl (q_pure ent161 rfl (isNaN_int x)) ?_  -- cmp.go:29
  refine steps_q rfl (q_move rfl) ?_  -- cmp.go:29
  refine steps_gn rfl rfl rfl rfl ?_  -- cmp.go:29
  refine steps_gn rfl rfl rfl rfl ?_  -- cmp.go:29
  refine steps_gn rfl rfl rfl rfl ?_  -- cmp.go:29
  refine steps_q rfl (q_pick_f rfl rfl) ?_  -- cmp.go:29
  refine steps_q rfl (q_move rfl) ?_  -- cmp.go:29
  refine steps_gq rfl rfl rfl (q_move rfl) ?_  -- cmp.go:29
  refine steps_gq rfl rfl rfl (q_move rfl) ?_  -- cmp.go:29
  refine steps_gq rfl rfl rfl (q_bin rfl rfl rfl) ?_  -- cmp.go:29
  refine steps_q rfl (q_pick_f rfl rfl) ?_  -- cmp.go:29
  refine steps_q rfl (q_assign rfl) ?_  -- cmp.go:29
  refine steps_nil ?_
  refine cw_ret ?_
  exact ret_pure rfl (rv_tmp rfl rv_nil) rfl
theorem bits_Len {x : Int} (h0 : 0 ≤ x) (h1 : x < B) : PureF Tryz.prog 96 [.int .u64 x] (.int .i64 (blen x)) := by
  refine pure_of Tryz.func96 rfl Tryz.ntmps96 rfl fun w => ?_
  refine cw_sr ?_
  refine steps_q rfl (q_assign rfl) ?_  -- bits.go:302
  refine steps_nil ?_
  refine cw_seq ?_
  refine cw_cond _ rfl (fun hc1 => ?_) (fun hc1 => ?_)
  · cases hc1
  · -- no 1
    refine cw_skip ?_
    refine at_then ?_
    refine cw_sr ?_
    refine steps_q rfl (q_move rfl) ?_  -- bits.go:306
    refine steps_q rfl (q_pure ent137 rfl (bits_Len64 h0 h1)) ?_  -- bits.go:306
    refine steps_q rfl (q_assign rfl) ?_  -- bits.go:306
    refine steps_nil ?_
    refine cw_ret ?_
    exact ret_pure rfl (rv_tmp rfl rv_nil) rfl

/-! ## Sorting in place -/
def vI (ys : List Int) : List Value := ys.map (Value.int .i64 ·)
theorem vI_get {ys : List Int} {rest : List Value} {j : Int} (h0 : 0 ≤ j) (h1 : j < ys.length) : (vI ys ++ rest)[0 + j.toNat * 1]? = some (.int .i64 (ys.getD j.toNat 0)) := by
  have h : j.toNat < ys.length := by omega
  rw [Nat.zero_add, Nat.mul_one, List.getElem?_append_left (by simpa [vI] using h), vI, List.getElem?_map, List.getD_eq_getElem?_getD, List.getElem?_eq_getElem h]
  rfl
theorem vI_wr {ys : List Int} {rest : List Value} {j : Int} (h0 : 0 ≤ j) (h1 : j < ys.length) (v : Int) : wr (vI ys ++ rest) (0 + j.toNat * 1) [.int .i64 v] = vI (ys.set j.toNat v) ++ rest := by
  have h : j.toNat < (vI ys).length := by simp [vI]; omega
  rw [Nat.zero_add, Nat.mul_one]
  have e : vI (ys.set j.toNat v) = (vI ys).set j.toNat (.int .i64 v) := by simp [vI, List.map_set]
  rw [e, List.set_eq_take_append_cons_drop, if_pos h]
  simp only [wr, List.length_singleton]
  rw [List.take_append_of_le_length (by omega), List.drop_append_of_le_length (by omega)]
  simp
theorem getD_set {ys : List Int} {j p : Nat} {v : Int} (h : j < ys.length) : (ys.set j v).getD p 0 = if p = j then v else ys.getD p 0 := by
  simp only [List.getD_eq_getElem?_getD, List.getElem?_set]
  by_cases e : p = j
  · subst e; simp [h]
  · rw [if_neg (Ne.symm e), if_neg e]
/-- The first of them are in order. -/
def Srt (i : Nat) (ys : List Int) : Prop := ∀ p q, p < q → q < i → ys.getD p 0 ≤ ys.getD q 0
/-- So they are, but for the one that goes down. -/
def SrtB (i j : Nat) (ys : List Int) : Prop := ∀ p q, p < q → q ≤ i → q ≠ j → ys.getD p 0 ≤ ys.getD q 0
theorem SrtB.begin {i : Nat} {ys : List Int} (h : Srt i ys) : SrtB i i ys := fun p q h1 h2 h3 => h p q h1 (by omega)
theorem SrtB.done {i j : Nat} {ys : List Int} (h : SrtB i j ys) (hj : j = 0 ∨ ¬ ys.getD j 0 < ys.getD (j - 1) 0) : Srt (i + 1) ys := fun p q h1 h2 => by
  by_cases e : q = j
  · subst e
    rcases hj with rfl | hj
    · omega
    · by_cases hp : p = q - 1
      · subst hp; omega
      · have := h p (q - 1) (by omega) (by omega) (by omega); omega
  · exact h p q h1 (by omega) e
theorem SrtB.step {i j : Nat} {ys : List Int} (h : SrtB i j ys) (h0 : 0 < j) (h1 : j ≤ i) (hl : i < ys.length) (hlt : ys.getD j 0 < ys.getD (j - 1) 0) :
    SrtB i (j - 1) ((ys.set j (ys.getD (j - 1) 0)).set (j - 1) (ys.getD j 0)) := by
  have hg : ∀ p, ((ys.set j (ys.getD (j - 1) 0)).set (j - 1) (ys.getD j 0)).getD p 0 = if p = j - 1 then ys.getD j 0 else if p = j then ys.getD (j - 1) 0 else ys.getD p 0 := fun p => by
    rw [getD_set (by rw [List.length_set]; omega), getD_set (by omega)]
  intro p q hpq hq hne
  rw [hg, hg]
  rw [if_neg hne]
  by_cases e1 : q = j
  · subst e1
    rw [if_pos rfl]
    split
    · omega
    · rw [if_neg (by omega)]
      exact h p (q - 1) (by omega) (by omega) (by omega)
  · rw [if_neg e1]
    split
    · rename_i e2
      exact h j q (by omega) hq e1
    · split
      · exact h (j - 1) q (by omega) hq e1
      · exact h p q hpq hq e1
theorem swap_perm {ys : List Int} {i j : Nat} (hi : i < ys.length) (hj : j < ys.length) : ((ys.set i (ys.getD j 0)).set j (ys.getD i 0)).Perm ys := by
  have e1 : ys.getD j 0 = ys[j] := by simp [List.getD_eq_getElem?_getD, hj]
  have e2 : ys.getD i 0 = ys[i] := by simp [List.getD_eq_getElem?_getD, hi]
  rw [e1, e2]
  exact List.set_set_perm hi hj
theorem srt_pairwise {ys : List Int} (h : Srt ys.length ys) : ys.Pairwise (· ≤ ·) := by
  rw [List.pairwise_iff_getElem]
  intro i j hi hj hij
  have := h i j hij hj
  simpa [List.getD_eq_getElem?_getD, hi, hj] using this
section
variable {P : Program} {w0 : World} {M : List Nat} {N : Nat} {D : Dfr} {T : TL} {L : HL}
/-- A call that turns one known block, into one of which R is told. -/
theorem s_callUpdE (i : Nat) {d : Nat} {x : Operand} {args : Array Operand} {ts : Array TypeId} {f : FuncId} {fs cs : Array Value} {vs : List Value} {t : TypeId} {p : String} {af : Array Edge} {g : Option (Nat × Bool)} {K : TL → HL → Prop} {Q : Exit → Act → World → Prop} {b k : Nat} {o : Obj} {v : Value} {R : Obj → Prop}
    (he : Ent P f) (hN : Nat.blt d N = true) (hx : ev T x = some (.func (.func f) fs cs)) (hv : evs T args.toList = some vs) (hl : NP.look L i = some (b, o))
    (h : ∀ w, w.heap[b]? = some o → Calls P f (fs ++ vs.toArray ++ cs) w fun e w' => e = .returned v ∧ ∃ o', R o' ∧ St w [b] w' [(k, (b, o'))])
    (kk : ∀ o', R o' → K ((d, v) :: T) ((i, (b, o')) :: L)) :
    Step P w0 M N D { dst := some d, op := .call { callee := .value x, args := args, argTypes := ts }, type := t, pos := p, after := af, guard := g } T L K Q :=
  s_call he hN hx hv fun w hw => (h w (hw.known i b o hl).1).mono fun _ _ ⟨h1, o', hR, h2⟩ => ⟨v, _, h1, hw.call1 hl h2, kk o' hR⟩
theorem end_upd {b k : Nat} {o' : Obj} {fn : Func} {R : Obj → Prop} (hr : fn.results.toList = []) (hR : R o') (hl : SubL [(k, (b, o'))] L) :
    At w0 [b] N D0 (bodyPost P fn fun e w' => e = .returned (.tuple #[]) ∧ ∃ o', R o' ∧ St w0 [b] w' [(k, (b, o'))]) .normal T L :=
  at_end hr rv_nil fun _ hw => ⟨rfl, o', hR, hw.weaken hl⟩
theorem ret_upd {b k : Nat} {o' : Obj} {fn : Func} {R : Obj → Prop} (hr : fn.results.toList = []) (hR : R o') (hl : SubL [(k, (b, o'))] L) :
    At w0 [b] N D0 (bodyPost P fn fun e w' => e = .returned (.tuple #[]) ∧ ∃ o', R o' ∧ St w0 [b] w' [(k, (b, o'))]) .ret T L :=
  at_ret hr rv_nil fun _ hw => ⟨rfl, o', hR, hw.weaken hl⟩
end
/-- A few numbers in order. -/
def SortedO (ys : List Int) (rest : List Value) (o : Obj) : Prop := ∃ zs : List Int, o = .cells (vI zs ++ rest).toArray 3 (0, 0) ∧ zs.Perm ys ∧ zs.Pairwise (· ≤ ·)

set_option maxHeartbeats 4000000 in
theorem insSort {ys : List Int} {rest : List Value} {b cap : Nat} (hl : ys.length ≤ 12) (w : World) (hb : w.heap[b]? = some (.cells (vI ys ++ rest).toArray 3 (0, 0))) :
    Calls Tryz.prog 127 #[.slice (some ⟨b, 0, none⟩) ys.length cap, .int .i64 0, .int .i64 ys.length] w fun e w' => e = .returned (.tuple #[]) ∧ ∃ o', SortedO ys rest o' ∧ St w [b] w' [(1, (b, o'))] := by
  refine calls_of Tryz.func127 rfl Tryz.ntmps127 rfl (St.start1 (i := 1) w hb) (args := [.slice (some ⟨b, 0, none⟩) ys.length cap, .int .i64 0, .int .i64 ys.length]) ?_
  refine cw_sr ?_
  refine steps_q rfl (q_move rfl) ?_  -- zsortordered.go:13
  refine steps_q rfl (q_bin rfl rfl (add64 (by omega) (by omega))) ?_  -- zsortordered.go:13
  refine steps_q rfl (q_assign rfl) ?_  -- zsortordered.go:13
  refine steps_nil ?_
  refine cw_block ?_
  -- LOOP 1 writes [6, 7, 10, 11, 12, 13, 14, 15, 16, 17, 18, 19, 20, 21, 22, 23, 24, 25, 26, 27, 28, 29, 30, 31, 32, 33, 34, 35, 36, 37, 38, 39, 40, 41, 42, 43, 44, 45, 46, 47, 48]  stores via [47, 48]  reads [0, 1, 2]
  refine cw_loop (S := Int × List Int) (fun s => [(0, .slice (some ⟨b, 0, none⟩) ys.length cap), (1, .int .i64 0), (2, .int .i64 ys.length), (6, .int .i64 s.1)]) (fun s => [(1, (b, .cells (vI s.2 ++ rest).toArray 3 (0, 0)))]) (fun s => 1 ≤ s.1 ∧ (s.1 ≤ ys.length ∨ s.1 = 1) ∧ s.2.Perm ys ∧ Srt s.1.toNat s.2) (fun s => (ys.length - s.1).toNat) (1, ys) ⟨by dsimp only; omega, .inr rfl, List.Perm.refl _, fun p q h1 h2 => by dsimp only at h2; omega⟩ (subs ⟨rfl, rfl, rfl, rfl, trivial⟩) (subs ⟨rfl, trivial⟩) ?_
  rintro ⟨i, zs⟩ ⟨i0, i1, hp, hs⟩
  dsimp only at i0 i1 hp hs
  conv => enter [7]; dsimp only
  conv => enter [8]; dsimp only
  have hzl := hp.length_eq
  refine cw_seq ?_
  refine cw_sr ?_
  refine steps_q rfl (q_move rfl) ?_  -- zsortordered.go:13
  refine steps_q rfl (q_move rfl) ?_  -- zsortordered.go:13
  refine steps_q rfl (q_bin rfl rfl rfl) ?_  -- zsortordered.go:13
  refine steps_nil ?_
  refine cw_cond _ rfl (fun hc1 => ?_) (fun hc1 => ?_)
  · -- yes 1
    have hi : i < ys.length := of_decide_eq_true hc1
    refine cw_skip ?_
    refine at_then ?_
    refine cw_seq ?_
    refine cw_block ?_
    refine cw_sr ?_
    refine steps_q rfl (q_move rfl) ?_  -- zsortordered.go:14
    refine steps_q rfl (q_assign rfl) ?_  -- zsortordered.go:14
    refine steps_nil ?_
    refine cw_block ?_
    -- LOOP 2 writes [7, 16, 17, 18, 19, 20, 21, 22, 23, 24, 25, 26, 27, 28, 29, 30, 31, 32, 33, 34, 35, 36, 37, 38, 39, 40, 41, 42, 43, 44, 45, 46, 47, 48]  stores via [47, 48]  reads [0, 1]
    refine cw_loop (S := Int × List Int) (fun s => [(0, .slice (some ⟨b, 0, none⟩) ys.length cap), (1, .int .i64 0), (2, .int .i64 ys.length), (6, .int .i64 i), (7, .int .i64 s.1)]) (fun s => [(1, (b, .cells (vI s.2 ++ rest).toArray 3 (0, 0)))]) (fun s => 0 ≤ s.1 ∧ s.1 ≤ i ∧ s.2.Perm ys ∧ SrtB i.toNat s.1.toNat s.2) (fun s => s.1.toNat) (i, zs) ⟨by dsimp only; omega, by dsimp only; omega, hp, SrtB.begin hs⟩ (subs ⟨rfl, rfl, rfl, rfl, rfl, trivial⟩) (subs ⟨rfl, trivial⟩) ?_
    rintro ⟨j, us⟩ ⟨j0, j1, hp2, hs2⟩
    dsimp only at j0 j1 hp2 hs2
    conv => enter [7]; dsimp only
    conv => enter [8]; dsimp only
    have hul := hp2.length_eq
    refine cw_seq ?_
    rcases Decidable.em (j > 0) with hj | hj
    · -- way 4.a
      refine cw_sd mixed [0, 1, 2, 3, 4, 5, 6, 7, 8, 9, 10, 11, 12, 13, 14] 0 _ (by kernel_rfl) (SubL.refl _) ?_
      refine qi_q rfl rfl (q_move rfl) ?_  -- zsortordered.go:14
      refine qi_q rfl rfl (q_move rfl) ?_  -- zsortordered.go:14
      refine qi_q rfl rfl (q_bin rfl rfl (gtr_t hj)) ?_  -- zsortordered.go:14
      refine qi_q rfl rfl (q_move rfl) ?_  -- zsortordered.go:14
      refine qi_gq rfl rfl rfl rfl (q_move rfl) ?_  -- zsortordered.go:14
      refine qi_gq rfl rfl rfl rfl (q_move rfl) ?_  -- zsortordered.go:14
      refine qi_gq rfl rfl rfl rfl (q_indexSl slc34 rfl rfl j0 (by omega)) ?_  -- zsortordered.go:14
      refine qi_gq rfl rfl rfl rfl (q_load1 1 one3 rfl rfl (vI_get j0 (by omega))) ?_  -- zsortordered.go:14
      refine qi_gq rfl rfl rfl rfl (q_move rfl) ?_  -- zsortordered.go:14
      refine qi_gq rfl rfl rfl rfl (q_move rfl) ?_  -- zsortordered.go:14
      refine qi_gq rfl rfl rfl rfl (q_bin rfl rfl (sub64 (by omega) (by omega))) ?_  -- zsortordered.go:14
      refine qi_gq rfl rfl rfl rfl (q_indexSl slc34 rfl rfl (by omega) (by omega)) ?_  -- zsortordered.go:14
      refine qi_gq rfl rfl rfl rfl (q_load1 1 one3 rfl rfl (vI_get (by omega) (by omega))) ?_  -- zsortordered.go:14
      refine qi_gq rfl rfl rfl rfl (q_pure ent133 rfl (less_int _ _)) ?_  -- zsortordered.go:14
      refine qi_q rfl rfl (q_pick_t rfl rfl) ?_  -- zsortordered.go:14
      refine qi_nil ?_
      refine tail_nil (by kernel_rfl) ?_
      refine cw_cond _ rfl (fun hc2 => ?_) (fun hc2 => ?_)
      · -- yes 2
        have hlt : us.getD j.toNat 0 < us.getD (j - 1).toNat 0 := of_decide_eq_true hc2
        rw [show (j - 1).toNat = j.toNat - 1 by omega] at hlt
        have hstep := SrtB.step hs2 (by omega) (by omega) (by omega) hlt
        have hperm := (swap_perm (ys := us) (i := j.toNat) (j := j.toNat - 1) (by omega) (by omega)).trans hp2
        refine cw_skip ?_
        refine at_then ?_
        refine cw_seq ?_
        refine cw_block ?_
        refine cw_meet (fun _ => [(0, .slice (some ⟨b, 0, none⟩) ys.length cap), (1, .int .i64 0), (2, .int .i64 ys.length), (6, .int .i64 i), (7, .int .i64 j)]) (fun _ => [(1, (b, .cells (vI ((us.set j.toNat (us.getD (j - 1).toNat 0)).set (j - 1).toNat (us.getD j.toNat 0)) ++ rest).toArray 3 (0, 0)))]) ?_ ?_
        · -- the orders of region 6
          refine cw_draw mixed [0, 1, 2, 3, 4, 5, 6, 7, 8, 10, 11, 12] 6 (without _ [1]) (by kernel_rfl) (sub_without _ _) ?_
          refine qi_q rfl rfl (q_move rfl) ?_  -- zsortordered.go:15
          refine qi_q rfl rfl (q_move rfl) ?_  -- zsortordered.go:15
          refine qi_q rfl rfl (q_move rfl) ?_  -- zsortordered.go:15
          refine qi_q rfl rfl (q_move rfl) ?_  -- zsortordered.go:15
          refine qi_q rfl rfl (q_bin rfl rfl (sub64 (by omega) (by omega))) ?_  -- zsortordered.go:15
          refine qi_q rfl rfl (q_move rfl) ?_  -- zsortordered.go:15
          refine qi_q rfl rfl (q_move rfl) ?_  -- zsortordered.go:15
          refine qi_q rfl rfl (q_bin rfl rfl (sub64 (by omega) (by omega))) ?_  -- zsortordered.go:15
          refine qi_q rfl rfl (q_indexSl slc34 rfl rfl (by omega) (by omega)) ?_  -- zsortordered.go:15
          refine qi_q rfl rfl (q_move rfl) ?_  -- zsortordered.go:15
          refine qi_q rfl rfl (q_move rfl) ?_  -- zsortordered.go:15
          refine qi_q rfl rfl (q_indexSl slc34 rfl rfl j0 (by omega)) ?_  -- zsortordered.go:15
          refine qi_nil ?_
          refine tail_cons [9, 13] (by kernel_rfl) ⟨⟨_, rfl, rfl, ?_⟩, ⟨_, rfl, rfl, ?_⟩, trivial⟩
          · refine (q_load1 1 one3 rfl rfl (vI_get (by omega) (by omega))).step rfl (by decide) ⟨(sub_without _ _), ?_⟩
            refine tail_one 13 (by kernel_rfl) rfl rfl ((q_load1 1 one3 rfl rfl (vI_get j0 (by omega))).step rfl (by decide) ⟨(sub_without _ _), ?_⟩)  -- zsortordered.go:15
            refine tail_one 14 (by kernel_rfl) rfl rfl ((q_indexSl slc34 rfl rfl j0 (by omega)).step rfl (by decide) ⟨(sub_without _ _), ?_⟩)  -- zsortordered.go:15
            refine tail_one 15 (by kernel_rfl) rfl rfl (s_store1 1 siz3 rfl rfl rfl rfl rfl (by simp [vI]; omega) (vI_wr j0 (by omega) _) ⟨(subl_cons rfl (sub_without _ _)), ?_⟩)  -- zsortordered.go:15
            refine tail_one 16 (by kernel_rfl) rfl rfl ((q_indexSl slc34 rfl rfl (by omega) (by omega)).step rfl (by decide) ⟨(subl_cons rfl (sub_without _ _)), ?_⟩)  -- zsortordered.go:15
            refine tail_one 17 (by kernel_rfl) rfl rfl (s_store1 1 siz3 rfl rfl rfl rfl rfl (by simp [vI]; omega) (vI_wr (by omega) (by rw [List.length_set]; omega) _) ⟨(subl_cons rfl (subl_cons rfl (sub_without _ _))), ?_⟩)  -- zsortordered.go:15
            refine tail_nil (by kernel_rfl) ?_
            exact at_join () (trivial) (subs ⟨rfl, rfl, rfl, rfl, rfl, trivial⟩) (subs ⟨rfl, trivial⟩)
          · refine (q_load1 1 one3 rfl rfl (vI_get j0 (by omega))).step rfl (by decide) ⟨(sub_without _ _), ?_⟩
            refine tail_one 9 (by kernel_rfl) rfl rfl ((q_load1 1 one3 rfl rfl (vI_get (by omega) (by omega))).step rfl (by decide) ⟨(sub_without _ _), ?_⟩)  -- zsortordered.go:15
            refine tail_one 14 (by kernel_rfl) rfl rfl ((q_indexSl slc34 rfl rfl j0 (by omega)).step rfl (by decide) ⟨(sub_without _ _), ?_⟩)  -- zsortordered.go:15
            refine tail_one 15 (by kernel_rfl) rfl rfl (s_store1 1 siz3 rfl rfl rfl rfl rfl (by simp [vI]; omega) (vI_wr j0 (by omega) _) ⟨(subl_cons rfl (sub_without _ _)), ?_⟩)  -- zsortordered.go:15
            refine tail_one 16 (by kernel_rfl) rfl rfl ((q_indexSl slc34 rfl rfl (by omega) (by omega)).step rfl (by decide) ⟨(subl_cons rfl (sub_without _ _)), ?_⟩)  -- zsortordered.go:15
            refine tail_one 17 (by kernel_rfl) rfl rfl (s_store1 1 siz3 rfl rfl rfl rfl rfl (by simp [vI]; omega) (vI_wr (by omega) (by rw [List.length_set]; omega) _) ⟨(subl_cons rfl (subl_cons rfl (sub_without _ _))), ?_⟩)  -- zsortordered.go:15
            refine tail_nil (by kernel_rfl) ?_
            exact at_join () (trivial) (subs ⟨rfl, rfl, rfl, rfl, rfl, trivial⟩) (subs ⟨rfl, trivial⟩)
        · -- behind region 6
          refine at_then ?_
          refine cw_region ?_
          refine steps_q rfl (q_move rfl) ?_  -- zsortordered.go:14
          refine steps_q rfl (q_bin rfl rfl (sub64 (by omega) (by omega))) ?_  -- zsortordered.go:14
          refine steps_q rfl (q_assign rfl) ?_  -- zsortordered.go:14
          refine steps_nil ?_
          exact at_round (j - 1, (us.set j.toNat (us.getD (j.toNat - 1) 0)).set (j.toNat - 1) (us.getD j.toNat 0)) ⟨by dsimp only; omega, by dsimp only; omega, hperm, by dsimp only; rw [show (j - 1).toNat = j.toNat - 1 by omega]; exact hstep⟩ (by dsimp only; omega) (subs ⟨rfl, rfl, rfl, rfl, rfl, trivial⟩) (subs ⟨by dsimp only; rw [show (j - 1).toNat = j.toNat - 1 by omega]; rfl, trivial⟩)
      · -- no 2
        have hlt : ¬ us.getD j.toNat 0 < us.getD (j - 1).toNat 0 := of_decide_eq_false hc2
        rw [show (j - 1).toNat = j.toNat - 1 by omega] at hlt
        have hdone := hs2.done (.inr hlt)
        refine cw_exit ?_
        refine at_then ?_
        refine cw_region ?_
        refine steps_q rfl (q_move rfl) ?_  -- zsortordered.go:13
        refine steps_q rfl (q_bin rfl rfl (add64 (by omega) (by omega))) ?_  -- zsortordered.go:13
        refine steps_q rfl (q_assign rfl) ?_  -- zsortordered.go:13
        refine steps_nil ?_
        exact at_round (i + 1, us) ⟨by dsimp only; omega, .inl (by dsimp only; omega), hp2, by dsimp only; rw [show (i + 1).toNat = i.toNat + 1 by omega]; exact hdone⟩ (by dsimp only; omega) (subs ⟨rfl, rfl, rfl, rfl, trivial⟩) (subs ⟨rfl, trivial⟩)
    · -- way 4.b
      refine cw_sd mixed [0, 1, 2, 3, 4, 5, 6, 7, 8, 9, 10, 11, 12, 13, 14] 0 _ (by kernel_rfl) (SubL.refl _) ?_
      refine qi_q rfl rfl (q_move rfl) ?_  -- zsortordered.go:14
      refine qi_q rfl rfl (q_move rfl) ?_  -- zsortordered.go:14
      refine qi_q rfl rfl (q_bin rfl rfl (gtr_f hj)) ?_  -- zsortordered.go:14
      refine qi_q rfl rfl (q_move rfl) ?_  -- zsortordered.go:14
      refine qi_gn rfl rfl rfl rfl rfl ?_  -- zsortordered.go:14
      refine qi_gn rfl rfl rfl rfl rfl ?_  -- zsortordered.go:14
      refine qi_gn rfl rfl rfl rfl rfl ?_  -- zsortordered.go:14
      refine qi_gn rfl rfl rfl rfl rfl ?_  -- zsortordered.go:14
      refine qi_gn rfl rfl rfl rfl rfl ?_  -- zsortordered.go:14
      refine qi_gn rfl rfl rfl rfl rfl ?_  -- zsortordered.go:14
      refine qi_gn rfl rfl rfl rfl rfl ?_  -- zsortordered.go:14
      refine qi_gn rfl rfl rfl rfl rfl ?_  -- zsortordered.go:14
      refine qi_gn rfl rfl rfl rfl rfl ?_  -- zsortordered.go:14
      refine qi_gn rfl rfl rfl rfl rfl ?_  -- zsortordered.go:14
      refine qi_q rfl rfl (q_pick_f rfl rfl) ?_  -- zsortordered.go:14
      refine qi_nil ?_
      refine tail_nil (by kernel_rfl) ?_
      refine cw_cond _ rfl (fun hc2 => ?_) (fun hc2 => ?_)
      · cases hc2
      · -- no 2
        have hdone := hs2.done (.inl (by omega))
        refine cw_exit ?_
        refine at_then ?_
        refine cw_region ?_
        refine steps_q rfl (q_move rfl) ?_  -- zsortordered.go:13
        refine steps_q rfl (q_bin rfl rfl (add64 (by omega) (by omega))) ?_  -- zsortordered.go:13
        refine steps_q rfl (q_assign rfl) ?_  -- zsortordered.go:13
        refine steps_nil ?_
        exact at_round (i + 1, us) ⟨by dsimp only; omega, .inl (by dsimp only; omega), hp2, by dsimp only; rw [show (i + 1).toNat = i.toNat + 1 by omega]; exact hdone⟩ (by dsimp only; omega) (subs ⟨rfl, rfl, rfl, rfl, trivial⟩) (subs ⟨rfl, trivial⟩)
  · -- no 1
    have hi : ¬ i < ys.length := of_decide_eq_false hc1
    refine cw_exit ?_
    exact end_upd rfl ⟨zs, rfl, hp, srt_pairwise fun p q h1 h2 => hs p q h1 (by omega)⟩ (subs ⟨rfl, trivial⟩)
theorem pdqSort {ys : List Int} {rest : List Value} {b cap : Nat} {lim : Int} (hl : ys.length ≤ 12) (w : World) (hb : w.heap[b]? = some (.cells (vI ys ++ rest).toArray 3 (0, 0))) :
    Calls Tryz.prog 95 #[.slice (some ⟨b, 0, none⟩) ys.length cap, .int .i64 0, .int .i64 ys.length, .int .i64 lim] w fun e w' => e = .returned (.tuple #[]) ∧ ∃ o', SortedO ys rest o' ∧ St w [b] w' [(1, (b, o'))] := by
  refine calls_of Tryz.func95 rfl Tryz.ntmps95 rfl (St.start1 (i := 1) w hb) (args := [.slice (some ⟨b, 0, none⟩) ys.length cap, .int .i64 0, .int .i64 ys.length, .int .i64 lim]) ?_
  refine cw_sr ?_
  refine steps_q rfl (q_assign rfl) ?_  -- zsortordered.go:67
  refine steps_nil ?_
  refine cw_sr ?_
  refine steps_q rfl (q_assign rfl) ?_  -- zsortordered.go:68
  refine steps_nil ?_
  refine cw_block ?_
  -- LOOP 1 writes [1, 2, 3, 8, 9, 10, 11, 12, 13, 14, 15, 16, 17, 18, 19, 20, 21, 22, 23, 24, 25, 26, 28, 29, 30, 31, 32, 34, 35, 36, 37, 38, 40, 41, 42, 43, 44, 45, 46, 47, 48, 49, 50, 51, 52, 53, 55, 56, 57, 58, 59, 60, 61, 62, 63, 64, 65, 66, 67, 68, 69, 70, 71, 72, 73, 74, 75, 76, 77, 78, 79, 80, 81, 82, 83, 84, 85, 86, 87, 88, 89, 90, 91, 92, 93, 94, 95, 96, 97, 98, 99, 100, 101, 102, 103, 104, 105, 106, 107, 108, 109, 110, 111, 112, 113, 114, 115, 116, 117, 118, 119, 120, 122, 123, 124, 125, 126, 127, 128, 129, 130, 131, 133]  stores via []  reads [0]
  refine cw_loop (S := Unit) (fun s => [(0, .slice (some ⟨b, 0, none⟩) ys.length cap), (1, .int .i64 0), (2, .int .i64 ys.length)]) (fun s => [(1, (b, .cells (vI ys ++ rest).toArray 3 (0, 0)))]) (fun s => True) (fun s => 0) () trivial (subs ⟨rfl, rfl, rfl, trivial⟩) (subs ⟨rfl, trivial⟩) ?_
  intro s _
  refine cw_block ?_
  refine cw_sr ?_
  refine steps_q rfl (q_move rfl) ?_  -- zsortordered.go:72
  refine steps_q rfl (q_move rfl) ?_  -- zsortordered.go:72
  refine steps_q rfl (q_bin rfl rfl (sub64 (by omega) (by omega))) ?_  -- zsortordered.go:72
  refine steps_q rfl (q_assign rfl) ?_  -- zsortordered.go:72
  refine steps_nil ?_
  refine cw_seq ?_
  refine cw_sr ?_
  refine steps_q rfl (q_move rfl) ?_  -- zsortordered.go:74
  refine steps_q rfl (q_bin rfl rfl rfl) ?_  -- zsortordered.go:74
  refine steps_nil ?_
  refine cw_cond _ rfl (fun hc1 => ?_) (fun hc1 => ?_)
  · -- yes 1
    refine cw_sr ?_
    refine steps_q rfl (q_move rfl) ?_  -- zsortordered.go:75
    refine steps_q rfl (q_move rfl) ?_  -- zsortordered.go:75
    refine steps_q rfl (q_move rfl) ?_  -- zsortordered.go:75
    refine steps_s (s_callUpdE (k := 1) 1 ent127 rfl rfl rfl rfl (R := SortedO ys rest) (fun w' hw => by simpa using insSort hl w' hw) fun o' hR => ?_)  -- zsortordered.go:75
    refine steps_nil ?_
    refine cw_ret ?_
    exact ret_upd rfl hR (subs ⟨rfl, trivial⟩)
  · have hc : ¬ ((ys.length : Int) - 0 ≤ 12) := of_decide_eq_false hc1
    omega
theorem sort_ints {ys : List Int} {rest : List Value} {b cap : Nat} (hl : ys.length ≤ 12) (w : World) (hb : w.heap[b]? = some (.cells (vI ys ++ rest).toArray 3 (0, 0))) :
    Calls Tryz.prog 62 #[.slice (some ⟨b, 0, none⟩) ys.length cap] w fun e w' => e = .returned (.tuple #[]) ∧ ∃ o', SortedO ys rest o' ∧ St w [b] w' [(1, (b, o'))] := by
  refine calls_of Tryz.func62 rfl Tryz.ntmps62 rfl (St.start1 (i := 1) w hb) (args := [.slice (some ⟨b, 0, none⟩) ys.length cap]) ?_
  refine cw_sr ?_
  refine steps_q rfl (q_move rfl) ?_  -- sort.go:17
  refine steps_q rfl (q_lenSl Tryz.underlying34 rfl) ?_  -- sort.go:17
  refine steps_q rfl (q_assign rfl) ?_  -- sort.go:17
  refine steps_nil ?_
  refine cw_region ?_
  refine steps_q rfl (q_move rfl) ?_  -- sort.go:18
  refine steps_q rfl (q_move rfl) ?_  -- sort.go:18
  refine steps_q rfl (q_move rfl) ?_  -- sort.go:18
  refine steps_q rfl (q_conv conv3_72 rfl rfl) ?_  -- sort.go:18
  rw [IntWalk.u64_in _ (by omega)]
  refine steps_q rfl (q_pure ent96 rfl (bits_Len (by omega) (show (ys.length : Int) < 18446744073709551616 by omega))) ?_  -- sort.go:18
  refine steps_s (s_callUpdE (k := 1) 1 ent95 rfl rfl rfl rfl (R := SortedO ys rest) (fun w' hw => by simpa using pdqSort hl w' hw) fun o' hR => ?_)  -- sort.go:18
  refine steps_nil ?_
  exact end_upd rfl hR (subs ⟨rfl, trivial⟩)
/-- What Clone hands back. -/
def CL (c : List Int) (v : Value) (Ln : HL) : Prop := ∃ g cur cap, v = .slice (some ⟨g, 0, none⟩) c.length cap ∧ Ln = [(65, (g, .cells cur.toArray 3 (0, 0)))] ∧ SV.ok 1 (some (g, cur, cap)) (c.map intC)
theorem clone_ints {c : List Int} {v : Value} (w : World) (hv : SlAt w 3 1 v (c.map intC)) (h1 : 1 ≤ c.length) (h4 : c.length ≤ 1000) :
    Calls Tryz.prog 61 #[v] w fun e w' => ∃ v Ln, e = .returned v ∧ CL c v Ln ∧ St w [] w' Ln := by
  obtain ⟨a, k, rfl, hs⟩ := hv
  rw [List.length_map]
  obtain ⟨bl, off, l, fz, rfl, hb, hpt⟩ := hs.resolve_left (by intro h; rw [List.map_eq_nil_iff] at h; subst h; simp at h1)
  have hblt : bl < w.heap.size := (Array.getElem?_eq_some_iff.1 hb).1
  refine calls_of Tryz.func61 rfl Tryz.ntmps61 rfl (St.start w) (args := [.slice (some ⟨bl, off, none⟩) c.length k]) ?_
  refine cw_sr ?_
  refine steps_q rfl (q_assign rfl) ?_  -- slices.go:355
  refine steps_nil ?_
  refine cw_seq ?_
  refine cw_sr ?_
  refine steps_q rfl (q_move rfl) ?_  -- slices.go:357
  refine steps_q rfl (q_slnil Tryz.underlying34 rfl) ?_  -- slices.go:357
  refine steps_nil ?_
  refine cw_cond _ rfl (fun hc1 => ?_) (fun hc1 => ?_)
  · cases hc1
  · -- no 1
    refine cw_skip ?_
    refine at_then ?_
    refine cw_sr ?_
    refine steps_s (s_buildSl 65 (vs := []) rfl rfl rfl (l := []) (e := 3) (fun w => by kernel_rfl) fun b5 => ?_)  -- slices.go:362
    refine steps_q rfl (q_move rfl) ?_  -- slices.go:362
    refine steps_s (s_appendM 65 (some (b5, [], 0)) 0 c.length [] (c.map intC) rfl (List.length_map _) elt34 rfl rfl ⟨rfl, Nat.le_refl _, Nat.zero_le _, rfl, fun y hy => nomatch hy⟩ (subs ⟨rfl, trivial⟩) rfl (fun w' hw => ⟨l, fz, (hw.below.block bl hblt).trans hb, hpt⟩) (fun x hx => by obtain ⟨y, _, rfl⟩ := List.mem_map.1 hx; rfl) (by omega) (by unfold maxLen; omega) (by omega) fun g cur cap hk => ?_)  -- slices.go:362
    refine steps_q rfl (q_assign rfl) ?_  -- slices.go:362
    refine steps_nil ?_
    refine cw_ret ?_
    exact at_ret rfl (rv_tmp rfl rv_nil) fun w' hw => ⟨_, _, rfl, ⟨g, cur, cap, by rw [Nat.zero_add]; rfl, rfl, hk⟩, hw.weaken (subs ⟨rfl, trivial⟩)⟩
end Go.Proofs.YtomdahjakkifbaaGreat

/-
  From simplex to simplex: each is nearer than those before, so they come to an end.
-/
namespace Go.Proofs.YtomdahjakkifbaaGreat
open Go Go.NP Go.RowKit Go.Proofs
set_option maxRecDepth 100000

/-! ## Nearer -/
theorem not_in_of_past {S : List Pt} {p : Pt} (hS : Good S) (h : dotS (nI S) p * dI S < sqS (nI S)) : p ∉ S := fun hp => by
  have := nI_crit hS.ne hS.le p hp; omega
theorem three_of_past {S : List Pt} {p : Pt} (hS : Good S) (h : dotS (nI S) p * dI S < sqS (nI S)) : S.length ≤ 3 := by
  refine Classical.byContradiction fun h3 => ?_
  rw [four_zero hS.ai (by have := hS.le; omega)] at h
  simp [sqS, dotS] at h
/-- A point between the nearest one of a simplex and one that is past it is nearer. -/
theorem between {S : List Pt} {p : Pt} (hS : Good S) (hlt : dotS (nI S) p * dI S < sqS (nI S)) :
    ∃ u : List Int, u.length = (p :: S).length ∧ (∀ x ∈ u, 0 ≤ x) ∧ 0 < tot u ∧ sqS (comb u (p :: S)) * (dI S * dI S) < sqS (nI S) * (tot u * tot u) := by
  have hd := hS.dpos
  have hw := wI_len (nz_of_len hS.ne)
  let Mm := dI S * dI S * sqS p.sp
  have hM : 0 ≤ Mm := Int.mul_nonneg (Int.le_of_lt (Int.mul_pos hd hd)) (sqS_nn _)
  have s1 : tot (mix Mm 0 (wI S) (wI S)) = Mm * dI S := by rw [mix_tot _ _ _ _ rfl, wI_tot]; omega
  have s2 : comb (mix Mm 0 (wI S) (wI S)) S = ⟨Mm * (nI S).x, Mm * (nI S).y, Mm * (nI S).z⟩ := by rw [mix_comb _ _ _ _ _ rfl hw]; simp [nI]
  have ml := mix_len Mm 0 (wI S) (wI S) rfl
  have hMd := Int.mul_nonneg hM (Int.le_of_lt hd)
  have ht' : tot (dI S :: mix Mm 0 (wI S) (wI S)) = (Mm + 1) * dI S := by simp only [tot, s1]; grind
  have hc' : comb (dI S :: mix Mm 0 (wI S) (wI S)) (p :: S) = ⟨Mm * (nI S).x + dI S * p.sp.x, Mm * (nI S).y + dI S * p.sp.y, Mm * (nI S).z + dI S * p.sp.z⟩ := by
    simp only [comb, s2, addW]; rfl
  refine ⟨dI S :: mix Mm 0 (wI S) (wI S), by simp [ml, hw], fun x hx => ?_, by simp only [tot, s1]; omega, ?_⟩
  · rcases List.mem_cons.1 hx with rfl | hx
    · exact Int.le_of_lt hd
    · obtain ⟨i, y, z, h1, h2, rfl⟩ := mix_mem rfl hx
      have := hS.pos y (List.mem_of_getElem? h1)
      have := Int.mul_nonneg hM (Int.le_of_lt this)
      omega
  · rw [ht', hc', sq_mix]
    have e1 : dotV p.sp (nI S) = dotS (nI S) p := by simp only [dotV, dotS, Pt.sp]; grind
    rw [e1]
    have hNpos : 0 < sqS (nI S) := by
      rcases Int.lt_or_eq_of_le (sqS_nn (nI S)) with h | h
      · exact h
      · have := sqS_zero h.symm
        rw [this] at hlt; simp [dotS, sqS] at hlt
    have hx : Mm * Mm * sqS (nI S) + 2 * (dI S * Mm * dotS (nI S) p) + dI S * dI S * sqS p.sp < sqS (nI S) * ((Mm + 1) * (Mm + 1)) := by
      have g1 : 0 ≤ Mm * (sqS (nI S) - dotS (nI S) p * dI S - 1) := Int.mul_nonneg hM (by omega)
      have e : dI S * dI S * sqS p.sp = Mm := rfl
      rw [e]
      have : sqS (nI S) * ((Mm + 1) * (Mm + 1)) - (Mm * Mm * sqS (nI S) + 2 * (dI S * Mm * dotS (nI S) p) + Mm) = 2 * (Mm * (sqS (nI S) - dotS (nI S) p * dI S - 1)) + Mm + sqS (nI S) := by grind
      omega
    have := Int.mul_lt_mul_of_pos_right hx (Int.mul_pos hd hd)
    have e : sqS (nI S) * ((Mm + 1) * dI S * ((Mm + 1) * dI S)) = sqS (nI S) * ((Mm + 1) * (Mm + 1)) * (dI S * dI S) := by grind
    omega
/-- Nothing of a body is nearer than that which nothing is past. -/
theorem ahead_min {T : List Pt} {N : Sp} {d : Int} (_hd : 0 < d) (h : Ahead T N d) {u : List Int} (hu : u.length = T.length) (h0 : ∀ x ∈ u, 0 ≤ x) : sqS N * (tot u * tot u) ≤ sqS (comb u T) * (d * d) := by
  have k := comb_ge (v := N) (a := d) (b := sqS N) hu h0 h
  have ht := tot_nn h0
  have hs := sqS_nn ⟨d * (comb u T).x + -tot u * N.x, d * (comb u T).y + -tot u * N.y, d * (comb u T).z + -tot u * N.z⟩
  rw [sq_mix (comb u T) N (-tot u) d] at hs
  have k2 := Int.mul_le_mul_of_nonneg_left k ht
  have e : d * d * sqS (comb u T) + 2 * (-tot u * d * dotV N (comb u T)) + -tot u * -tot u * sqS N = sqS (comb u T) * (d * d) - 2 * (tot u * (dotV N (comb u T) * d)) + tot u * (sqS N * tot u) := by grind
  have e2 : sqS N * (tot u * tot u) = tot u * (sqS N * tot u) := by grind
  omega

/-! ## How many there are -/
def chs : Nat → Nat → List (List Int)
  | 0, _ => [[]]
  | _ + 1, 0 => []
  | k + 1, n + 1 => chs (k + 1) n ++ (chs k n).map (· ++ [(n : Int)])
theorem mem_chs : ∀ (n k : Nat) (l : List Int), l.length = k → l.Pairwise (· < ·) → (∀ x ∈ l, 0 ≤ x ∧ x < n) → l ∈ chs k n
  | n, 0, l, hl, _, _ => by rw [List.length_eq_zero_iff.1 hl]; cases n <;> simp [chs]
  | 0, k + 1, l, hl, _, hx => by
    cases l with
    | nil => simp at hl
    | cons a l => have := hx a (by simp); omega
  | n + 1, k + 1, l, hl, hp, hx => by
    have hne : l ≠ [] := by rintro rfl; simp at hl
    have hsp := List.dropLast_concat_getLast hne
    have hlen : l.dropLast.length = k := by rw [List.length_dropLast]; omega
    rw [← hsp] at hp
    rw [List.pairwise_append] at hp
    obtain ⟨hp1, -, hp2⟩ := hp
    have hlast := hx _ (List.getLast_mem hne)
    have hdl : ∀ x ∈ l.dropLast, 0 ≤ x ∧ x < l.getLast hne := fun x h => ⟨(hx x (List.dropLast_subset _ h)).1, hp2 x h _ (by simp)⟩
    simp only [chs, List.mem_append, List.mem_map]
    by_cases e : l.getLast hne = n
    · right
      refine ⟨l.dropLast, mem_chs n k _ hlen hp1 fun x h => ?_, by rw [← e]; exact hsp⟩
      have := hdl x h; omega
    · left
      refine mem_chs n (k + 1) l hl ?_ fun x h => ?_
      · rw [← hsp, List.pairwise_append]; exact ⟨hp1, by simp, hp2⟩
      · rw [← hsp] at h
        rcases List.mem_append.1 h with h | h
        · have := hdl x h; omega
        · simp at h; omega
def cn (k n : Nat) : Int := (chs k n).length
theorem cn_succ (k n : Nat) : cn (k + 1) (n + 1) = cn (k + 1) n + cn k n := by
  simp [cn, chs]
theorem cn0 (n : Nat) : cn 0 n = 1 := by cases n <;> rfl
theorem cnz (k : Nat) : cn (k + 1) 0 = 0 := rfl
theorem cn1 : ∀ n : Nat, cn 1 n = n
  | 0 => rfl
  | n + 1 => by rw [cn_succ, cn1 n, cn0]; omega
theorem cn2 : ∀ n : Nat, 2 * cn 2 n = n * (n - 1)
  | 0 => rfl
  | n + 1 => by
    have := cn2 n
    have := cn1 n
    rw [cn_succ]; push_cast; grind
theorem cn3 : ∀ n : Nat, 3 * cn 3 n = cn 2 n * (n - 2)
  | 0 => rfl
  | n + 1 => by
    have := cn3 n
    have := cn2 n
    have := cn1 n
    rw [cn_succ, cn_succ]; push_cast; grind
theorem cn4 : ∀ n : Nat, 4 * cn 4 n = cn 3 n * (n - 3)
  | 0 => rfl
  | n + 1 => by
    have := cn4 n
    have := cn3 n
    have := cn2 n
    have := cn1 n
    rw [cn_succ, cn_succ]; push_cast; grind
def mostI (n : Nat) : Int := n + cn 2 n + cn 3 n + cn 4 n
theorem length_le_of {α : Type} [DecidableEq α] : ∀ {l m : List α}, l.Nodup → (∀ x ∈ l, x ∈ m) → l.length ≤ m.length
  | [], _, _, _ => Nat.zero_le _
  | a :: l, m, hn, hs => by
    obtain ⟨ha, hn'⟩ := List.nodup_cons.1 hn
    have hm := hs a (by simp)
    have := length_le_of (l := l) (m := m.erase a) hn' fun x hx => (List.mem_erase_of_ne (by rintro rfl; exact ha hx)).2 (hs x (by simp [hx]))
    rw [List.length_erase_of_mem hm] at this
    have := List.length_pos_of_mem hm
    simp only [List.length_cons]; omega
/-- Places that are a simplex of some points. -/
structure Own (ps : List Pt) (o : List Int) : Prop where
  up : o.Pairwise (· < ·)
  at' : ∀ k ∈ o, 0 ≤ k ∧ k < ps.length
  good : Good (sel ps o)
theorem Own.len {ps : List Pt} {o : List Int} (h : Own ps o) : 1 ≤ o.length ∧ o.length ≤ 4 := by
  have h1 := h.good.ne
  have h2 := h.good.le
  simp only [sel, List.length_map] at h1 h2
  exact ⟨h1, h2⟩
theorem seen_le {ps : List Pt} {seen : List (List Int)} (hn : seen.Nodup) (h : ∀ o ∈ seen, Own ps o) : (seen.length : Int) ≤ mostI ps.length := by
  have := length_le_of (m := chs 1 ps.length ++ (chs 2 ps.length ++ (chs 3 ps.length ++ chs 4 ps.length))) hn fun o ho => by
    have hO := h o ho
    have hl := hO.len
    have hm := mem_chs ps.length o.length o rfl hO.up hO.at'
    have : o.length = 1 ∨ o.length = 2 ∨ o.length = 3 ∨ o.length = 4 := by omega
    simp only [List.mem_append]
    rcases this with e | e | e | e <;> rw [e] at hm <;> simp [hm]
  have e := cn1 ps.length
  simp only [List.length_append] at this
  unfold mostI
  unfold cn at *
  omega

/-! ## The steps -/
/-- What a step begins with: places, and the simplices that were before. -/
structure WI (ps : List Pt) (at_ : List Int) (seen : List (List Int)) : Prop where
  up : at_.Pairwise (· < ·)
  in' : ∀ k ∈ at_, 0 ≤ k ∧ k < ps.length
  one : 1 ≤ at_.length
  four : at_.length ≤ 4
  nd : seen.Nodup
  own : ∀ o ∈ seen, Own ps o
  near : ∀ o ∈ seen, ∃ u : List Int, u.length = at_.length ∧ (∀ x ∈ u, 0 ≤ x) ∧ 0 < tot u ∧ sqS (comb u (sel ps at_)) * (dI (sel ps o) * dI (sel ps o)) < sqS (nI (sel ps o)) * (tot u * tot u)
theorem WI.begin {ps : List Pt} (h : 1 ≤ ps.length) : WI ps [0] [] :=
  ⟨by simp, by simp; omega, by simp, by simp, by simp, by simp, by simp⟩
def pickI (at_ c : List Int) : List Int := c.map fun k => at_.getD k.toNat 0
theorem sel_pick {ps : List Pt} {at_ c : List Int} (hc : ∀ k ∈ c, 0 ≤ k ∧ k < at_.length) : sel (sel ps at_) c = sel ps (pickI at_ c) := by
  simp only [sel, pickI, List.map_map]
  refine List.map_congr_left fun k hk => ?_
  have h := hc k hk
  have hk' : k.toNat < at_.length := by omega
  refine ptI_of ?_
  show (at_.map (ptI ps))[k.toNat]? = _
  rw [List.getElem?_map, List.getElem?_eq_getElem hk']
  simp [List.getD_eq_getElem?_getD, hk']
theorem pickI_up {at_ : List Int} (hu : at_.Pairwise (· < ·)) : ∀ {c : List Int}, c.Pairwise (· < ·) → (∀ k ∈ c, 0 ≤ k ∧ k < at_.length) → (pickI at_ c).Pairwise (· < ·) := by
  intro c hc hk
  unfold pickI
  rw [List.pairwise_map]
  refine hc.imp_of_mem fun {a b} ha hb hab => ?_
  have h1 := hk a ha
  have h2 := hk b hb
  have := List.pairwise_iff_getElem.1 hu a.toNat b.toNat (by omega) (by omega) (by omega)
  simpa [List.getD_eq_getElem?_getD, show a.toNat < at_.length by omega, show b.toNat < at_.length by omega] using this
theorem pickI_in {ps : List Pt} {at_ c : List Int} (hi : ∀ k ∈ at_, 0 ≤ k ∧ k < ps.length) (hk : ∀ k ∈ c, 0 ≤ k ∧ k < at_.length) : ∀ k ∈ pickI at_ c, 0 ≤ k ∧ k < ps.length := by
  intro m hm
  obtain ⟨k, hkc, rfl⟩ := List.mem_map.1 hm
  have h := hk k hkc
  refine hi _ ?_
  have hl : k.toNat < at_.length := by omega
  simp [List.getD_eq_getElem?_getD, hl]
/-- The simplex of a step. -/
theorem WI.step {ps : List Pt} {at_ c : List Int} {seen : List (List Int)} (h : WI ps at_ seen) (hc : c ∈ choicesI (sel ps at_).length) (ht : testB (sel ps at_) c = true) :
    Own ps (pickI at_ c) ∧ sel (sel ps at_) c = sel ps (pickI at_ c) ∧ (pickI at_ c :: seen).Nodup ∧
    (∀ o ∈ seen, sqS (nI (sel ps (pickI at_ c))) * (dI (sel ps o) * dI (sel ps o)) < sqS (nI (sel ps o)) * (dI (sel ps (pickI at_ c)) * dI (sel ps (pickI at_ c)))) := by
  have hsl : (sel ps at_).length = at_.length := List.length_map _
  have h1 := h.one
  have h4 := h.four
  obtain ⟨c1, c4, ck, cup⟩ := choice_len (n4 (by omega) (by omega)) hc
  rw [hsl] at ck
  have e := sel_pick (ps := ps) ck
  obtain ⟨hg, ha⟩ := (testB_iff c1 c4).1 ht
  rw [e] at hg ha
  have hO : Own ps (pickI at_ c) := ⟨pickI_up h.up cup ck, pickI_in h.in' ck, hg⟩
  have hlt : ∀ o ∈ seen, sqS (nI (sel ps (pickI at_ c))) * (dI (sel ps o) * dI (sel ps o)) < sqS (nI (sel ps o)) * (dI (sel ps (pickI at_ c)) * dI (sel ps (pickI at_ c))) := fun o ho => by
    obtain ⟨u, u1, u2, u3, u4⟩ := h.near o ho
    have hmin := ahead_min hg.dpos ha (u := u) (by omega) u2
    have hd := hg.dpos
    have hdo := (h.own o ho).good.dpos
    exact flt_trans (Int.mul_pos u3 u3) (Int.mul_pos hd hd) (Int.le_of_lt (Int.mul_pos hdo hdo)) hmin u4
  refine ⟨hO, e, List.nodup_cons.2 ⟨fun hm => ?_, h.nd⟩, hlt⟩
  have := hlt _ hm
  omega
/-- With a point more that is past it. -/
theorem WI.next {ps : List Pt} {at_ o at2 : List Int} {seen : List (List Int)} {k : Int} (h : WI ps at_ seen) (hO : Own ps o) (hn : (o :: seen).Nodup)
    (hlt : ∀ q ∈ seen, sqS (nI (sel ps o)) * (dI (sel ps q) * dI (sel ps q)) < sqS (nI (sel ps q)) * (dI (sel ps o) * dI (sel ps o)))
    (hk : 0 ≤ k ∧ k < ps.length) (hp : dotS (nI (sel ps o)) (ptI ps k) * dI (sel ps o) < sqS (nI (sel ps o))) (hperm : at2.Perm (o ++ [k])) (hs : at2.Pairwise (· ≤ ·)) : WI ps at2 (o :: seen) := by
  have h3 := three_of_past hO.good hp
  have hnk : k ∉ o := fun hm => not_in_of_past hO.good hp (List.mem_map_of_mem hm)
  have hlen := hperm.length_eq
  have hnd : at2.Nodup := hperm.nodup_iff.2 (by
    rw [List.nodup_append]
    exact ⟨hO.up.imp (fun hab => by omega), by simp, fun a ha b hb => by simp at hb; subst hb; rintro rfl; exact hnk ha⟩)
  simp only [sel, List.length_map] at h3
  rw [List.length_append, List.length_singleton] at hlen
  have hp2 : (ptI ps k :: sel ps o).Perm (sel ps at2) := by
    have := (hperm.map (ptI ps)).symm
    rw [List.map_append] at this
    exact (List.perm_append_comm (l₁ := [ptI ps k]) (l₂ := sel ps o)).trans this
  obtain ⟨u, u1, u2, u3, u4⟩ := between hO.good hp
  obtain ⟨v, v1, v2, v3, v4⟩ := perm_weights hp2 u u1
  have hvl : v.length = at2.length := by rw [v1, sel, List.length_map]
  have hv0 : ∀ x ∈ v, 0 ≤ x := fun x hx => u2 x ((v4 x).1 hx)
  have hvp : 0 < tot v := by omega
  rw [← v3, ← v2] at u4
  refine ⟨?_, fun m hm => ?_, by omega, by omega, hn, fun q hq => ?_, fun q hq => ?_⟩
  · exact (hs.and hnd).imp fun hab => by omega
  · rcases List.mem_append.1 (hperm.mem_iff.1 hm) with h1 | h1
    · exact hO.at' m h1
    · simp at h1; subst h1; exact hk
  · rcases List.mem_cons.1 hq with rfl | hq
    · exact hO
    · exact h.own q hq
  · refine ⟨v, hvl, hv0, hvp, ?_⟩
    rcases List.mem_cons.1 hq with rfl | hq
    · exact u4
    · have hd := hO.good.dpos
      have hdq := (h.own q hq).good.dpos
      exact flt_trans (Int.mul_pos hd hd) (Int.mul_pos hvp hvp) (Int.le_of_lt (Int.mul_pos hdq hdq)) (Int.le_of_lt u4) (hlt q hq)
end Go.Proofs.YtomdahjakkifbaaGreat

/-
  The walks of package gjk: fine, most, and the closure of walk.
-/
namespace Go.Proofs.YtomdahjakkifbaaGreat
open Go Go.NP Go.RowKit Go.Proofs
set_option maxRecDepth 100000

/-- What stands against points. -/
def errG (ps : List Pt) : Int := if okPts ps then if 256 < ps.length then 3 else if ps.length = 0 then 2 else 0 else 7
theorem errG_ok {ps : List Pt} : errG ps = 0 ↔ okPts ps ∧ 1 ≤ ps.length ∧ ps.length ≤ 256 := by
  unfold errG
  split
  · rename_i h
    split
    · simp [h]; omega
    · split
      · simp [h]; omega
      · simp [h]; omega
  · rename_i h; simp [h]
theorem gjk_fine {ps : List Pt} {v : Value} (w : World) (h : PtsAt w v ps) (hlen : ps.length ≤ 9223372036854775807) :
    Calls Tryz.prog 23 #[v] w fun e w' => e = .returned (.int .i64 (errG ps)) ∧ Below w.heap.size w w' := by
  obtain ⟨a, c, rfl, hsl⟩ := h
  rw [List.length_map]
  refine calls_of Tryz.func23 rfl Tryz.ntmps23 rfl (St.start w) (args := [.slice a ps.length c]) ?_
  refine cw_sr ?_
  refine steps_q rfl (q_assign rfl) ?_  -- gjk.go:14
  refine steps_nil ?_
  refine cw_seq ?_
  refine cw_sr ?_
  refine steps_q rfl (q_move rfl) ?_  -- gjk.go:15
  refine steps_q rfl (q_lenSl Tryz.underlying22 rfl) ?_  -- gjk.go:15
  refine steps_q rfl (q_move rfl) ?_  -- gjk.go:15
  refine steps_nil ?_
  refine cw_block ?_
  -- LOOP 1 writes [4, 7, 8, 9, 10, 11, 12, 13, 14]  stores via [4]  reads [5, 6]
  refine cw_loop (S := Int) (fun s => [(0, .slice a ps.length c), (5, .slice a ps.length c), (6, .int .i64 ps.length), (7, .int .i64 s)]) (fun _ => []) (fun s => 0 ≤ s ∧ s ≤ ps.length ∧ ∀ (k : Nat) (p : Pt), ps[k]? = some p → (k : Int) < s → p.In 268435456) (fun s => (ps.length - s).toNat) 0 ⟨by omega, by omega, fun k p _ hk => by omega⟩ (subs ⟨rfl, rfl, rfl, rfl, trivial⟩) (subs trivial) ?_
  intro i ⟨hi0, hi1, hz⟩
  refine cw_sr ?_
  refine steps_q rfl (q_bin rfl rfl rfl) ?_  -- gjk.go:15
  refine steps_nil ?_
  refine cw_seq ?_
  refine cw_cond _ rfl (fun hc1 => ?_) (fun hc1 => ?_)
  · -- yes 1
    have hc : i < ps.length := of_decide_eq_true hc1
    obtain ⟨p, hp⟩ : ∃ p, ps[i.toNat]? = some p := ⟨ps[i.toNat]'(by omega), List.getElem?_eq_getElem (by omega)⟩
    have hpl : (ps.map Pt.l)[i.toNat]? = some p.l := by rw [List.getElem?_map, hp]; rfl
    obtain ⟨b, off, l, fz, rfl, hb, hpt⟩ := hsl.resolve_left (by intro h; rw [h] at hpl; simp at hpl)
    refine cw_skip ?_
    refine at_then ?_
    refine cw_seq ?_
    refine cw_block ?_
    refine cw_sr ?_
    refine steps_q rfl (q_indexSl slc22 rfl rfl hi0 hc) ?_  -- gjk.go:15
    refine steps_q rfl (q_loadAo agg47 rfl hb (by simp) (hpt _ _ hpl)) ?_  -- gjk.go:15
    refine steps_s (s_allocA 4 rfl zer47 fun b4 => ?_)  -- gjk.go:15
    refine steps_s (s_storeW 4 siz47 rfl rfl rfl rfl rfl rfl ?_)  -- gjk.go:15
    refine steps_nil ?_
    refine cw_sr ?_
    refine steps_q rfl (q_loadW 4 agg47 rfl rfl rfl) ?_  -- gjk.go:16
    refine steps_q rfl (q_pure ent16 rfl (grid_Check p)) ?_  -- gjk.go:16
    refine steps_q rfl (q_bin rfl rfl (congrArg (fun b => some (Value.bool b)) (errP_ne p))) ?_  -- gjk.go:16
    refine steps_nil ?_
    refine cw_cond _ rfl (fun hc2 => ?_) (fun hc2 => ?_)
    · -- yes 2
      have hn : ¬ p.In 268435456 := by simpa using hc2
      have e : errG ps = 7 := if_neg fun h => hn (h p (List.mem_of_getElem? hp))
      refine cw_sr ?_
      refine steps_q rfl (q_assign rfl) ?_  -- gjk.go:17
      refine steps_nil ?_
      refine cw_ret ?_
      rw [e]
      exact ret_pure rfl (rv_tmp rfl rv_nil) rfl
    · -- no 2
      have hn : p.In 268435456 := by simpa using hc2
      have hz' : ∀ (k : Nat) (q : Pt), ps[k]? = some q → (k : Int) < i + 1 → q.In 268435456 := fun k q hq hk => by
        by_cases hki : k = i.toNat
        · subst hki; rw [hp] at hq; cases hq; exact hn
        · exact hz k q hq (by omega)
      refine cw_skip ?_
      refine at_then ?_
      refine cw_region ?_
      refine steps_q rfl (q_bin rfl rfl (add64 (by omega) (by omega))) ?_  -- gjk.go:15
      refine steps_q rfl (q_move rfl) ?_  -- gjk.go:15
      refine steps_nil ?_
      exact at_round _ ⟨by omega, by omega, hz'⟩ (by omega) (subs ⟨rfl, rfl, rfl, rfl, trivial⟩) (subs trivial)
  · -- no 1
    have hc : ¬ i < ps.length := of_decide_eq_false hc1
    have hok : okPts ps := fun p hp => by
      obtain ⟨k, hk, he⟩ := List.getElem_of_mem hp
      exact hz k p (by rw [List.getElem?_eq_getElem hk, he]) (by omega)
    refine cw_exit ?_
    refine at_then ?_
    refine cw_seq ?_
    refine cw_block ?_
    refine cw_sr ?_
    refine steps_q rfl (q_move rfl) ?_  -- gjk.go:21
    refine steps_q rfl (q_lenSl Tryz.underlying22 rfl) ?_  -- gjk.go:21
    refine steps_q rfl (q_bin rfl rfl rfl) ?_  -- gjk.go:21
    refine steps_q rfl (q_assign rfl) ?_  -- gjk.go:21
    refine steps_nil ?_
    refine cw_cond _ rfl (fun hc3 => ?_) (fun hc3 => ?_)
    · -- yes 3
      have h3 : (ps.length : Int) > 256 := of_decide_eq_true hc3
      have e : errG ps = 3 := by unfold errG; rw [if_pos hok, if_pos (by omega)]
      refine cw_sr ?_
      refine steps_q rfl (q_assign rfl) ?_  -- gjk.go:22
      refine steps_nil ?_
      refine cw_ret ?_
      rw [e]
      exact ret_pure rfl (rv_tmp rfl rv_nil) rfl
    · -- no 3
      have h3 : ¬ (ps.length : Int) > 256 := of_decide_eq_false hc3
      refine cw_sr ?_
      refine steps_q rfl (q_move rfl) ?_  -- gjk.go:23
      refine steps_q rfl (q_lenSl Tryz.underlying22 rfl) ?_  -- gjk.go:23
      refine steps_q rfl (q_bin rfl rfl rfl) ?_  -- gjk.go:23
      refine steps_q rfl (q_assign rfl) ?_  -- gjk.go:23
      refine steps_nil ?_
      refine cw_cond _ rfl (fun hc4 => ?_) (fun hc4 => ?_)
      · -- yes 4
        have h4 : (ps.length : Int) = 0 := by simpa using hc4
        have e : errG ps = 2 := by unfold errG; rw [if_pos hok, if_neg (by omega), if_pos (by omega)]
        refine cw_sr ?_
        refine steps_q rfl (q_assign rfl) ?_  -- gjk.go:24
        refine steps_nil ?_
        refine cw_ret ?_
        rw [e]
        exact ret_pure rfl (rv_tmp rfl rv_nil) rfl
      · -- no 4
        have h4 : ¬ (ps.length : Int) = 0 := by simpa using hc4
        have e : errG ps = 0 := errG_ok.2 ⟨hok, by omega, by omega⟩
        refine cw_skip ?_
        refine at_then ?_
        refine cw_sr ?_
        refine steps_q rfl (q_assign rfl) ?_  -- gjk.go:26
        refine steps_nil ?_
        refine cw_ret ?_
        rw [e]
        exact ret_pure rfl (rv_tmp rfl rv_nil) rfl
theorem cn_bounds (n : Nat) (h : n ≤ 256) : 0 ≤ cn 2 n ∧ cn 2 n ≤ 65536 ∧ 0 ≤ cn 3 n ∧ cn 3 n ≤ 16777216 ∧ 0 ≤ cn 4 n ∧ cn 4 n ≤ 4294967296 := by
  have h2 := cn2 n
  have h3 := cn3 n
  have h4 := cn4 n
  have k2 : 0 ≤ cn 2 n := Int.natCast_nonneg _
  have k3 : 0 ≤ cn 3 n := Int.natCast_nonneg _
  have k4 : 0 ≤ cn 4 n := Int.natCast_nonneg _
  have b1 := mul_bd (a := n) (b := n - 1) (A := 256) (C := 256) (by omega) (by omega)
  have b2 := mul_bd (a := cn 2 n) (b := n - 2) (A := 65536) (C := 256) (by omega) (by omega)
  have b3 := mul_bd (a := cn 3 n) (b := n - 3) (A := 16777216) (C := 256) (by omega) (by omega)
  omega
theorem gjk_most {n : Nat} (h : n ≤ 256) : PureF Tryz.prog 59 [.int .i64 n] (.int .i64 (mostI n)) := by
  have h2 := cn2 n
  have h3 := cn3 n
  have h4 := cn4 n
  obtain ⟨a0, a1, b0, b1, c0, c1⟩ := cn_bounds n h
  have e2 : (n : Int) * (n - 1) / 2 = cn 2 n := by rw [← h2]; omega
  have e3 : cn 2 n * (n - 2) / 3 = cn 3 n := by rw [← h3]; omega
  have e4 : cn 3 n * (n - 3) / 4 = cn 4 n := by rw [← h4]; omega
  refine pure_of Tryz.func59 rfl Tryz.ntmps59 rfl fun w => ?_
  refine cw_sr ?_
  refine steps_q rfl (q_assign rfl) ?_  -- gjk.go:33
  refine steps_nil ?_
  refine cw_sr ?_
  refine steps_q rfl (q_move rfl) ?_  -- gjk.go:34
  refine steps_q rfl (q_move rfl) ?_  -- gjk.go:34
  refine steps_q rfl (q_bin rfl rfl (sub64 (by omega) (by omega))) ?_  -- gjk.go:34
  refine steps_q rfl (q_bin rfl rfl (mul64 (by omega) (by omega))) ?_  -- gjk.go:34
  refine steps_q rfl (q_bin rfl rfl (quo64 (by omega) (by omega) (by omega))) ?_  -- gjk.go:34
  rw [e2]
  refine steps_q rfl (q_assign rfl) ?_  -- gjk.go:34
  refine steps_nil ?_
  refine cw_sr ?_
  refine steps_q rfl (q_move rfl) ?_  -- gjk.go:35
  refine steps_q rfl (q_move rfl) ?_  -- gjk.go:35
  refine steps_q rfl (q_bin rfl rfl (sub64 (by omega) (by omega))) ?_  -- gjk.go:35
  refine steps_q rfl (q_bin rfl rfl (mul64 (by omega) (by omega))) ?_  -- gjk.go:35
  refine steps_q rfl (q_bin rfl rfl (quo64 (by omega) (by omega) (by omega))) ?_  -- gjk.go:35
  rw [e3]
  refine steps_q rfl (q_assign rfl) ?_  -- gjk.go:35
  refine steps_nil ?_
  refine cw_sr ?_
  refine steps_q rfl (q_move rfl) ?_  -- gjk.go:36
  refine steps_q rfl (q_move rfl) ?_  -- gjk.go:36
  refine steps_q rfl (q_bin rfl rfl (add64 (by omega) (by omega))) ?_  -- gjk.go:36
  refine steps_q rfl (q_move rfl) ?_  -- gjk.go:36
  refine steps_q rfl (q_bin rfl rfl (add64 (by omega) (by omega))) ?_  -- gjk.go:36
  refine steps_q rfl (q_move rfl) ?_  -- gjk.go:36
  refine steps_q rfl (q_move rfl) ?_  -- gjk.go:36
  refine steps_q rfl (q_bin rfl rfl (sub64 (by omega) (by omega))) ?_  -- gjk.go:36
  refine steps_q rfl (q_bin rfl rfl (mul64 (by omega) (by omega))) ?_  -- gjk.go:36
  refine steps_q rfl (q_bin rfl rfl (quo64 (by omega) (by omega) (by omega))) ?_  -- gjk.go:36
  rw [e4]
  refine steps_q rfl (q_bin rfl rfl (add64 (by omega) (by omega))) ?_  -- gjk.go:36
  refine steps_q rfl (q_assign rfl) ?_  -- gjk.go:36
  refine steps_nil ?_
  refine cw_ret ?_
  exact ret_pure rfl (rv_tmp rfl rv_nil) rfl

/-- What the closure of walk reads. -/
structure WB (w : World) (bl : Nat) (v : Value) (ps : List Pt) : Prop where
  l1 : w.heap[bl]? = some (.cells [v].toArray 22 (0, 0))
  at' : PtsAt w v ps
theorem WB.below {w w' : World} {bl : Nat} {v : Value} {ps : List Pt} (h : WB w bl v ps) (hb : Below w.heap.size w w') : WB w' bl v ps :=
  ⟨(hb.block bl (Array.getElem?_eq_some_iff.1 h.l1).1).trans h.l1, h.at'.below hb⟩
/-- The place of one that is least far along. -/
def LeastAt (n : Sp) (ps : List Pt) (k : Int) : Prop := 0 ≤ k ∧ k < ps.length ∧ ∀ p ∈ ps, dotS n (ptI ps k) ≤ dotS n p
theorem least_take {n : Sp} {ps : List Pt} {m j : Nat} {p : Pt} (hp : ps[j]? = some p) (h : ∀ q ∈ ps.take j, dotS n (ptI ps m) ≤ dotS n q) (hm : dotS n (ptI ps m) ≤ dotS n p) : ∀ q ∈ ps.take (j + 1), dotS n (ptI ps m) ≤ dotS n q :=
  pall_take hp h hm
theorem gjk_back {ps : List Pt} {w : World} {bl : Nat} {v : Value} {m : Nr} (h : WB w bl v ps) (hok : okPts ps) (h1 : 1 ≤ ps.length) (h256 : ps.length ≤ 256) (hn : m.n.In Mid) :
    Calls Tryz.prog 56 #[.agg m.l.toArray, .pointer (some ⟨bl, 0, none⟩)] w fun e w' => ∃ k, e = .returned (.int .i64 k) ∧ LeastAt m.n ps k ∧ Below w.heap.size w w' := by
  obtain ⟨hl, hv⟩ := h
  obtain ⟨a, c, rfl, hs⟩ := hv
  rw [List.length_map] at hl
  have p0 := ptI_get (ps := ps) (Int.le_refl 0) (by omega)
  have p0l : (ps.map Pt.l)[(0 : Int).toNat]? = some (ptI ps 0).l := by rw [List.getElem?_map, p0]; rfl
  obtain ⟨bp, off, l0, fz, rfl, hb, hpt⟩ := hs.resolve_left (by intro h; rw [h] at p0l; simp at p0l)
  refine calls_of Tryz.func56 rfl Tryz.ntmps56 rfl (St.start w) (args := [.agg m.l.toArray, .pointer (some ⟨bl, 0, none⟩)]) ?_
  refine cw_sr ?_
  refine steps_s (s_boxA 2 rfl rfl fun b2 => ?_)  -- gjk.go:41
  refine steps_q rfl (q_assign rfl) ?_  -- gjk.go:41
  refine steps_nil ?_
  refine cw_sr ?_
  refine steps_q rfl (q_build (vs := []) rfl rfl bldW0) ?_  -- gjk.go:42
  refine steps_s (s_allocA 5 rfl zer31 fun b5 => ?_)  -- gjk.go:42
  refine steps_q rfl (q_assign rfl) ?_  -- gjk.go:42
  refine steps_s (s_storeW 5 siz31 rfl rfl rfl rfl rfl rfl ?_)  -- gjk.go:42
  refine steps_nil ?_
  refine cw_seq ?_
  refine cw_sr ?_
  refine steps_q rfl (q_load1o one22 rfl hl (by simp) rfl) ?_  -- gjk.go:43
  refine steps_q rfl (q_lenSl Tryz.underlying22 rfl) ?_  -- gjk.go:43
  refine steps_q rfl (q_move rfl) ?_  -- gjk.go:43
  refine steps_nil ?_
  refine cw_block ?_
  -- LOOP 1 writes [4, 6, 7, 8, 13, 14, 15, 16, 17, 18, 19, 20, 21, 22, 23, 24, 25, 26, 27, 28, 29, 30, 31, 32, 33, 34, 35]  stores via [5, 7, 8]  reads [2, 5, 11, 12]
  refine cw_loop (S := Nat × Option Nat) (fun s => [(2, .pointer (some ⟨b2, 0, none⟩)), (4, .int .i64 (match s.2 with | none => -1 | some k => (k : Int))), (5, .pointer (some ⟨b5, 0, none⟩)), (11, .slice (some ⟨bp, off, none⟩) ps.length c), (12, .int .i64 ps.length), (13, .int .i64 s.1)]) (fun s => [(2, (b2, .cells m.l.toArray 36 (0, 0))), (5, (b5, .cells (Wl (match s.2 with | none => 0 | some k => dotS m.n (ptI ps k))).toArray 31 (0, 0)))]) (fun s => s.1 ≤ ps.length ∧ match s.2 with | none => s.1 = 0 | some k => k < s.1 ∧ ∀ q ∈ ps.take s.1, dotS m.n (ptI ps k) ≤ dotS m.n q) (fun s => ps.length - s.1) (0, none) ⟨by dsimp only; omega, rfl⟩ (subs ⟨rfl, rfl, rfl, rfl, rfl, rfl, trivial⟩) (subs ⟨rfl, rfl, trivial⟩) ?_
  rintro ⟨j, best⟩ ⟨j1, hbest⟩
  dsimp only at j1 hbest
  conv => enter [7]; dsimp only
  conv => enter [8]; dsimp only
  refine cw_sr ?_
  refine steps_q rfl (q_bin rfl rfl rfl) ?_  -- gjk.go:43
  refine steps_nil ?_
  refine cw_seq ?_
  refine cw_cond _ rfl (fun hc1 => ?_) (fun hc1 => ?_)
  · -- yes 1
    have hj : (j : Int) < (ps.length : Int) := of_decide_eq_true hc1
    have pj := ptI_get (ps := ps) (i := j) (by omega) hj
    have pjl : (ps.map Pt.l)[(j : Int).toNat]? = some (ptI ps j).l := by rw [List.getElem?_map, pj]; rfl
    rw [Int.toNat_natCast] at pj
    have hpin := ptI_in hok (i := j) (by omega) hj
    have hA := alFits hn (hpin.mono (show (268435456 : Int) ≤ P40 by decide)) (by decide) (by decide) (by decide)
    have hfd : ∀ {p : Pt}, p.In 268435456 → Fits (dotS m.n p) := fun hp => fits_big (bd_big (dotS_bd hn hp) (by decide))
    refine cw_skip ?_
    refine at_then ?_
    refine cw_seq ?_
    refine cw_block ?_
    refine cw_sr ?_
    refine steps_q rfl (q_move rfl) ?_  -- gjk.go:43
    refine steps_q rfl (q_indexSl slc22 rfl rfl (by omega) hj) ?_  -- gjk.go:43
    refine steps_q rfl (q_loadAo agg47 rfl hb (by simp) (hpt _ _ pjl)) ?_  -- gjk.go:43
    refine steps_s (s_allocA 7 rfl zer47 fun b7 => ?_)  -- gjk.go:43
    refine steps_q rfl (q_assign rfl) ?_  -- gjk.go:43
    refine steps_s (s_storeW 7 siz47 rfl rfl rfl rfl rfl rfl ?_)  -- gjk.go:43
    refine steps_nil ?_
    refine cw_sr ?_
    refine steps_q rfl (q_field fld36_0 rfl) ?_  -- gjk.go:44
    refine steps_q rfl (q_loadA 2 agg33 rfl rfl (nr0 m)) ?_  -- gjk.go:44
    refine steps_q rfl (q_loadW 7 agg47 rfl rfl rfl) ?_  -- gjk.go:44
    refine steps_q rfl (q_pure ent57 rfl (grid_Along hA)) ?_  -- gjk.go:44
    refine steps_q rfl (q_move rfl) ?_  -- gjk.go:44
    refine steps_q rfl (q_extract rfl rfl) ?_  -- gjk.go:44
    refine steps_q rfl (q_extract rfl rfl) ?_  -- gjk.go:44
    refine steps_s (s_allocA 8 rfl zer31 fun b8 => ?_)  -- gjk.go:44
    refine steps_s (s_storeW 8 siz31 rfl rfl rfl rfl rfl rfl ?_)  -- gjk.go:44
    refine steps_q rfl (q_assign rfl) ?_  -- gjk.go:44
    refine steps_nil ?_
    rcases best with _ | k
    · -- way 6.a
      refine cw_sr ?_
      refine steps_q rfl (q_move rfl) ?_  -- gjk.go:44
      refine steps_q rfl (q_bin rfl rfl (lss_t (by decide))) ?_  -- gjk.go:44
      refine steps_q rfl (q_move rfl) ?_  -- gjk.go:44
      refine steps_gn rfl rfl rfl rfl ?_  -- gjk.go:44
      refine steps_gn rfl rfl rfl rfl ?_  -- gjk.go:44
      refine steps_gn rfl rfl rfl rfl ?_  -- gjk.go:44
      refine steps_gn rfl rfl rfl rfl ?_  -- gjk.go:44
      refine steps_q rfl (q_pick_t rfl rfl) ?_  -- gjk.go:44
      refine steps_nil ?_
      refine cw_cond _ rfl (fun hc2 => ?_) (fun hc2 => ?_)
      · -- yes 2
        obtain rfl : j = 0 := hbest
        have hnew : ∀ q ∈ ps.take (0 + 1), dotS m.n (ptI ps (0 : Nat)) ≤ dotS m.n q := least_take pj (by simp) (Int.le_refl _)
        refine cw_draw mixed [0, 1, 2] 1 (without _ [5]) (by kernel_rfl) (sub_without _ _) ?_
        refine qi_q rfl rfl (q_move rfl) ?_  -- gjk.go:45
        refine qi_q rfl rfl (q_loadW 8 agg31 rfl rfl rfl) ?_  -- gjk.go:45
        refine qi_q rfl rfl (q_assign rfl) ?_  -- gjk.go:45
        refine qi_nil ?_
        refine tail_one 3 (by kernel_rfl) rfl rfl (s_storeW 5 siz31 rfl rfl rfl rfl rfl rfl ⟨(subl_cons rfl (sub_without _ _)), ?_⟩)  -- gjk.go:45
        refine tail_nil (by kernel_rfl) ?_
        refine at_then ?_
        refine cw_region ?_
        refine steps_q rfl (q_bin rfl rfl (add64 (by omega) (by omega))) ?_  -- gjk.go:43
        refine steps_q rfl (q_move rfl) ?_  -- gjk.go:43
        refine steps_nil ?_
        first
          | exact at_round (j + 1, some j) ⟨by dsimp only; omega, by dsimp only; exact ⟨by omega, hnew⟩⟩ (by dsimp only; omega) (subs ⟨rfl, rfl, rfl, rfl, rfl, by dsimp only; rw [show ((j + 1 : Nat) : Int) = j + 1 by omega]; rfl, trivial⟩) (subs ⟨rfl, rfl, trivial⟩)
          | exact at_round (0 + 1, some 0) ⟨by dsimp only; omega, by dsimp only; exact ⟨by omega, hnew⟩⟩ (by dsimp only; omega) (subs ⟨rfl, rfl, rfl, rfl, rfl, rfl, trivial⟩) (subs ⟨rfl, rfl, trivial⟩)
          | exact at_round (j + 1, some k) ⟨by dsimp only; omega, by dsimp only; exact ⟨by omega, hold⟩⟩ (by dsimp only; omega) (subs ⟨rfl, rfl, rfl, rfl, rfl, by dsimp only; rw [show ((j + 1 : Nat) : Int) = j + 1 by omega]; rfl, trivial⟩) (subs ⟨rfl, rfl, trivial⟩)
      · cases hc2
    · -- way 6.b
      refine cw_sr ?_
      refine steps_q rfl (q_move rfl) ?_  -- gjk.go:44
      refine steps_q rfl (q_bin rfl rfl (lss_f (show ¬ (k : Int) < 0 by omega))) ?_  -- gjk.go:44
      refine steps_q rfl (q_move rfl) ?_  -- gjk.go:44
      refine steps_gq rfl rfl rfl (q_loadW 8 agg31 rfl rfl rfl) ?_  -- gjk.go:44
      refine steps_gq rfl rfl rfl (q_loadW 5 agg31 rfl rfl rfl) ?_  -- gjk.go:44
      refine steps_gq rfl rfl rfl (q_pure ent58 rfl (wide_Cmp _ _ (hfd hpin) (hfd (ptI_in hok (i := k) (by omega) (by omega))))) ?_  -- gjk.go:44
      refine steps_gq rfl rfl rfl (q_bin rfl rfl (cmpI_lt _ _)) ?_  -- gjk.go:44
      refine steps_q rfl (q_pick_f rfl rfl) ?_  -- gjk.go:44
      refine steps_nil ?_
      refine cw_cond _ rfl (fun hc2 => ?_) (fun hc2 => ?_)
      · -- yes 2
        have hlt : dotS m.n (ptI ps j) < dotS m.n (ptI ps k) := of_decide_eq_true hc2
        have hnew : ∀ q ∈ ps.take (j + 1), dotS m.n (ptI ps j) ≤ dotS m.n q := least_take pj (fun q hq => by have := hbest.2 q hq; omega) (Int.le_refl _)
        refine cw_draw mixed [0, 1, 2] 1 (without _ [5]) (by kernel_rfl) (sub_without _ _) ?_
        refine qi_q rfl rfl (q_move rfl) ?_  -- gjk.go:45
        refine qi_q rfl rfl (q_loadW 8 agg31 rfl rfl rfl) ?_  -- gjk.go:45
        refine qi_q rfl rfl (q_assign rfl) ?_  -- gjk.go:45
        refine qi_nil ?_
        refine tail_one 3 (by kernel_rfl) rfl rfl (s_storeW 5 siz31 rfl rfl rfl rfl rfl rfl ⟨(subl_cons rfl (sub_without _ _)), ?_⟩)  -- gjk.go:45
        refine tail_nil (by kernel_rfl) ?_
        refine at_then ?_
        refine cw_region ?_
        refine steps_q rfl (q_bin rfl rfl (add64 (by omega) (by omega))) ?_  -- gjk.go:43
        refine steps_q rfl (q_move rfl) ?_  -- gjk.go:43
        refine steps_nil ?_
        first
          | exact at_round (j + 1, some j) ⟨by dsimp only; omega, by dsimp only; exact ⟨by omega, hnew⟩⟩ (by dsimp only; omega) (subs ⟨rfl, rfl, rfl, rfl, rfl, by dsimp only; rw [show ((j + 1 : Nat) : Int) = j + 1 by omega]; rfl, trivial⟩) (subs ⟨rfl, rfl, trivial⟩)
          | exact at_round (0 + 1, some 0) ⟨by dsimp only; omega, by dsimp only; exact ⟨by omega, hnew⟩⟩ (by dsimp only; omega) (subs ⟨rfl, rfl, rfl, rfl, rfl, rfl, trivial⟩) (subs ⟨rfl, rfl, trivial⟩)
          | exact at_round (j + 1, some k) ⟨by dsimp only; omega, by dsimp only; exact ⟨by omega, hold⟩⟩ (by dsimp only; omega) (subs ⟨rfl, rfl, rfl, rfl, rfl, by dsimp only; rw [show ((j + 1 : Nat) : Int) = j + 1 by omega]; rfl, trivial⟩) (subs ⟨rfl, rfl, trivial⟩)
      · -- no 2
        have hlt : ¬ dotS m.n (ptI ps j) < dotS m.n (ptI ps k) := of_decide_eq_false hc2
        have hold : ∀ q ∈ ps.take (j + 1), dotS m.n (ptI ps k) ≤ dotS m.n q := least_take pj hbest.2 (by omega)
        refine cw_skip ?_
        refine at_then ?_
        refine cw_region ?_
        refine steps_q rfl (q_bin rfl rfl (add64 (by omega) (by omega))) ?_  -- gjk.go:43
        refine steps_q rfl (q_move rfl) ?_  -- gjk.go:43
        refine steps_nil ?_
        first
          | exact at_round (j + 1, some j) ⟨by dsimp only; omega, by dsimp only; exact ⟨by omega, hnew⟩⟩ (by dsimp only; omega) (subs ⟨rfl, rfl, rfl, rfl, rfl, by dsimp only; rw [show ((j + 1 : Nat) : Int) = j + 1 by omega]; rfl, trivial⟩) (subs ⟨rfl, rfl, trivial⟩)
          | exact at_round (0 + 1, some 0) ⟨by dsimp only; omega, by dsimp only; exact ⟨by omega, hnew⟩⟩ (by dsimp only; omega) (subs ⟨rfl, rfl, rfl, rfl, rfl, rfl, trivial⟩) (subs ⟨rfl, rfl, trivial⟩)
          | exact at_round (j + 1, some k) ⟨by dsimp only; omega, by dsimp only; exact ⟨by omega, hold⟩⟩ (by dsimp only; omega) (subs ⟨rfl, rfl, rfl, rfl, rfl, by dsimp only; rw [show ((j + 1 : Nat) : Int) = j + 1 by omega]; rfl, trivial⟩) (subs ⟨rfl, rfl, trivial⟩)
  · -- no 1
    have hj : ¬ (j : Int) < (ps.length : Int) := of_decide_eq_false hc1
    rcases best with _ | k
    · have : j = 0 := hbest
      omega
    rw [List.take_of_length_le (by omega)] at hbest
    refine cw_exit ?_
    refine at_then ?_
    refine cw_sr ?_
    refine steps_q rfl (q_move rfl) ?_  -- gjk.go:48
    refine steps_q rfl (q_assign rfl) ?_  -- gjk.go:48
    refine steps_nil ?_
    refine cw_ret ?_
    exact at_ret rfl (rv_tmp rfl rv_nil) fun w' hw => ⟨k, rfl, ⟨by omega, by omega, hbest.2⟩, hw.below⟩
end Go.Proofs.YtomdahjakkifbaaGreat
