/-
  The law GjkBest: its walk. From a walk that turns nothing old to a row: arguments read; behind the call they read as before.
-/
import Derived.Test.YtomdahjakkifbaaPg
import Derived.Test.YtomdahjakkifbaaRows
import Derived.ProofKit
import Derived.Carry

/-
  The law GjkBest: its walk.
-/
namespace Go.Proofs.Ytomdahjakkifbaa
open Go Go.NP Go.RowKit Go.Proofs
set_option maxRecDepth 100000

/-! ## A simplex that bears its nearest point needs all its points -/
theorem sublist_weights {S' S : List Pt} (h : S'.Sublist S) : ∀ w : List Int, w.length = S'.length → ∃ u : List Int, u.length = S.length ∧ tot u = tot w ∧ comb u S = comb w S' ∧ (S'.length < S.length → (0 : Int) ∈ u) := by
  induction h with
  | slnil => exact fun w hw => ⟨w, hw, rfl, rfl, fun h => by simp at h⟩
  | cons a h ih =>
    intro w hw
    obtain ⟨u, h1, h2, h3, _⟩ := ih w hw
    exact ⟨0 :: u, by simp [h1], by simp [tot, h2], by simp [comb, addW, h3], fun _ => by simp⟩
  | cons_cons a h ih =>
    intro w hw
    cases w with
    | nil => simp at hw
    | cons x w =>
      obtain ⟨u, h1, h2, h3, h4⟩ := ih w (by simpa using hw)
      exact ⟨x :: u, by simp [h1], by simp [tot, h2], by simp [comb, h3], fun hl => by have := h4 (by simpa using hl); simp [this]⟩
theorem full_simplex {S S' : List Pt} (hS : Good S) (hS' : Good S') (hin : ∀ q ∈ S', q ∈ S) (ha : Ahead S (nI S') (dI S')) : S'.length = S.length := by
  have haS : Ahead S' (nI S) (dI S) := fun q hq => by rw [nI_crit hS.ne hS.le q (hin q hq)]; exact Int.le_refl _
  obtain ⟨e1, e2, e3⟩ := same_of_ahead hS hS' haS ha
  have hp := pick_perm S S' hS'.ai.nodup hin
  have hsub := pick_sub S S'
  obtain ⟨v, v1, v2, v3, _⟩ := perm_weights hp (wI S') (wI_len (nz_of_len hS'.ne))
  obtain ⟨u, u1, u2, u3, u4⟩ := sublist_weights hsub v v1
  rw [wI_tot] at v2
  have hle := hsub.length_le
  rw [← hp.length_eq] at hle
  refine Classical.byContradiction fun hne => ?_
  have h0 := u4 (by rw [← hp.length_eq]; omega)
  obtain ⟨i, hi⟩ := List.mem_iff_getElem?.1 h0
  have hd := hS.dpos
  have hd' := hS'.dpos
  have hcu : comb u S = nI S' := by rw [u3, v3]; rfl
  have hlev : ∀ q ∈ S, dI S * dotS (comb u S) q = dI S' * dotS (nI S) (ptI S 0) := fun q hq => by
    rw [← nI_level hS.ne hS.le q hq, hcu]
    simp only [dotS]
    have k1 : dI S' * (nI S).x * q.x = dI S * (nI S').x * q.x := by rw [e1]
    have k2 : dI S' * (nI S).y * q.y = dI S * (nI S').y * q.y := by rw [e2]
    have k3 : dI S' * (nI S).z * q.z = dI S * (nI S').z * q.z := by rw [e3]
    grind
  have hlev2 : ∀ q ∈ S, dotS (comb u S) q = dotS (comb u S) (ptI S 0) := fun q hq => by
    have h1 := hlev q hq
    have h2 := hlev (ptI S 0) (List.mem_of_getElem? (ptI_get (Int.le_refl 0) (by have := hS.ne; omega)))
    have : dI S * (dotS (comb u S) q - dotS (comb u S) (ptI S 0)) = 0 := by rw [Int.mul_sub, h1, h2]; omega
    have := mul0 (by omega) this
    omega
  obtain ⟨k, _⟩ := own_weights hS.ne hS.le hS.ai u1 hlev2
  have hil : i < S.length := by have := (List.getElem?_eq_some_iff.1 hi).1; omega
  have hwl := wI_len (nz_of_len hS.ne)
  have hy : (wI S)[i]? = some (wI S)[i] := List.getElem?_eq_getElem (by omega)
  have := k i 0 _ hi hy
  have hpos := hS.pos (wI S)[i] (List.getElem_mem (by omega))
  have hm := Int.mul_pos (show 0 < tot u by omega) hpos
  omega
/-- The nearest of its own points is itself, and takes all of them. -/
theorem again_same {ps : List Pt} {own c : List Int} (h : Ends ps own) (hc : c ∈ choicesI (sel ps own).length) (ht : testB (sel ps own) c = true) :
    nrOf (sel (sel ps own) c) = nrOf (sel ps own) ∧ c.length = own.length := by
  have hg := h.1.good
  have hE := ends_of_test hg.ne hg.le hc ht
  have hin : ∀ q ∈ sel (sel ps own) c, q ∈ sel ps own := fun q hq => by
    obtain ⟨i, hi, rfl⟩ := List.mem_map.1 hq
    have := hE.1.at' i hi
    exact List.mem_of_getElem? (ptI_get this.1 this.2)
  have haS : Ahead (sel (sel ps own) c) (nI (sel ps own)) (dI (sel ps own)) := fun q hq => by rw [nI_crit hg.ne hg.le q (hin q hq)]; exact Int.le_refl _
  have h1 := hg.dpos
  have h2 := hE.1.good.dpos
  refine ⟨(nrSum_eq (same_of_ahead hg hE.1.good haS hE.2) (by omega) (by omega)).symm, ?_⟩
  have := full_simplex hg hE.1.good hin hE.2
  simpa [sel] using this
theorem same_self (a b : Nr) (h1 : a.n = b.n) (h2 : a.d = b.d) : sameB a b = true := by unfold sameB; simp [h1, h2]
theorem fitsD {d : Int} (h : 1 ≤ d ∧ d ≤ Mid) : Fits d := fits_big (bd_big (k := Mid) (by omega) (by decide))

set_option maxHeartbeats 8000000 in
theorem law_GjkBest {ps : List Pt} {v : Value} (w : World) (hv : PtsAt w v ps) (hl : ps.length ≤ 9223372036854775807) :
    Calls Try.prog 4 #[v] w fun e w' => e = .returned (.bool true) ∧ Below w.heap.size w w' := by
  have hv0 := hv
  obtain ⟨a, c0, rfl, hs⟩ := hv
  rw [List.length_map] at hv0 ⊢
  by_cases h60 : ps.length ≤ 60
  · by_cases he : errG ps = 0
    · obtain ⟨hok, l1, l256⟩ := errG_ok.1 he
      refine calls_of Try.func4 rfl Try.ntmps4 rfl (St.start w) (args := [.slice a ps.length c0]) ?_
      refine cw_sr ?_
      refine steps_q rfl (q_assign rfl) ?_  -- outright.go:19
      refine steps_nil ?_
      refine cw_seq ?_
      refine cw_sr ?_
      refine steps_q rfl (q_move rfl) ?_  -- outright.go:20
      refine steps_q rfl (q_lenSl Try.underlying22 rfl) ?_  -- outright.go:20
      refine steps_q rfl (q_bin rfl rfl (gtr_f (by omega))) ?_  -- outright.go:20
      refine steps_nil ?_
      refine cw_cond _ rfl (fun hc1 => ?_) (fun hc1 => ?_)
      · cases hc1
      · -- no 1
        refine cw_skip ?_
        refine at_then ?_
        refine cw_sr ?_
        refine steps_q rfl (q_move rfl) ?_  -- outright.go:23
        refine steps_s (s_callSt ent6 rfl rfl rfl (R := GN ps) (fun w' hw => by simpa using gjk_Near_ok w' (SlAt.st hv0 hw) he) fun v Ln hZ => ?_)  -- outright.go:23
        obtain ⟨own, g, cur, cap, hE, rfl, rfl, hsv⟩ := hZ
        have hf := ends_fits hok hE
        have hol := hE.1.len
        have hin := hE.1.at'
        obtain ⟨nv, hnv⟩ : ∃ nv, nv = (⟨(nrOf (sel ps own)).n, (nrOf (sel ps own)).d, .slice (some ⟨g, 0, none⟩) own.length cap⟩ : Nr) := ⟨_, rfl⟩
        refine steps_q rfl (q_move rfl) ?_  -- outright.go:23
        refine steps_q rfl (q_extract rfl rfl) ?_  -- outright.go:23
        refine steps_q rfl (q_extract rfl rfl) ?_  -- outright.go:23
        refine steps_s (s_allocA 3 rfl zer31 fun b3 => ?_)  -- outright.go:23
        refine steps_s (s_storeW 3 siz31 rfl rfl rfl rfl rfl rfl ?_)  -- outright.go:23
        refine steps_q rfl (q_assign rfl) ?_  -- outright.go:23
        refine steps_nil ?_
        refine cw_sr ?_
        refine steps_q rfl (q_move rfl) ?_  -- outright.go:24
        refine steps_s (s_callSt ent9 rfl rfl rfl (R := GS ps) (fun w' hw => by simpa using gjk_Steps_ok w' (SlAt.st hv0 hw) he) fun v Ln hZ => ?_)  -- outright.go:24
        obtain ⟨steps, s1, s2, rfl, rfl⟩ := hZ
        refine steps_q rfl (q_move rfl) ?_  -- outright.go:24
        refine steps_q rfl (q_extract rfl rfl) ?_  -- outright.go:24
        refine steps_q rfl (q_extract rfl rfl) ?_  -- outright.go:24
        refine steps_q rfl (q_assign rfl) ?_  -- outright.go:24
        refine steps_q rfl (q_assign rfl) ?_  -- outright.go:24
        refine steps_nil ?_
        refine cw_seq ?_
        refine cw_sr ?_
        refine steps_q rfl (q_move rfl) ?_  -- outright.go:25
        refine steps_q rfl (q_move rfl) ?_  -- outright.go:25
        refine steps_q rfl (q_bin rfl rfl (neq_f rfl)) ?_  -- outright.go:25
        refine steps_nil ?_
        refine cw_cond _ rfl (fun hc2 => ?_) (fun hc2 => ?_)
        · cases hc2
        · -- no 2
          refine cw_skip ?_
          refine at_then ?_
          refine cw_seq ?_
          refine cw_sr ?_
          refine steps_q rfl (q_move rfl) ?_  -- outright.go:28
          refine steps_q rfl (q_bin rfl rfl (neq_f rfl)) ?_  -- outright.go:28
          refine steps_nil ?_
          refine cw_cond _ rfl (fun hc3 => ?_) (fun hc3 => ?_)
          · cases hc3
          · -- no 3
            refine cw_skip ?_
            refine at_then ?_
            refine cw_seq ?_
            refine cw_sr ?_
            refine steps_q rfl (q_assign rfl) ?_  -- outright.go:31
            refine steps_nil ?_
            refine cw_block ?_
            -- LOOP 1 writes [7, 49, 50, 51, 52, 53, 54, 55, 56, 57, 58, 59, 60]  stores via []  reads [0, 3]
            refine cw_loop (S := Nat) (fun i => [(0, .slice a ps.length c0), (3, .pointer (some ⟨b3, 0, none⟩)), (5, .int .i64 steps), (7, .int .i64 i)]) (fun _ => [(3, (b3, .cells (Nr.l ⟨(nrOf (sel ps own)).n, (nrOf (sel ps own)).d, .slice (some ⟨g, 0, none⟩) own.length cap⟩).toArray 31 (0, 0))), (63, (g, .cells cur.toArray 3 (0, 0)))]) (fun i => i ≤ ps.length) (fun i => ps.length - i) 0 (by omega) (subs ⟨rfl, rfl, rfl, rfl, trivial⟩) (subs ⟨rfl, rfl, trivial⟩) ?_
            intro i i1
            refine cw_seq ?_
            refine cw_sr ?_
            refine steps_q rfl (q_move rfl) ?_  -- outright.go:31
            refine steps_q rfl (q_move rfl) ?_  -- outright.go:31
            refine steps_q rfl (q_lenSl Try.underlying22 rfl) ?_  -- outright.go:31
            refine steps_q rfl (q_bin rfl rfl rfl) ?_  -- outright.go:31
            refine steps_nil ?_
            refine cw_cond _ rfl (fun hc4 => ?_) (fun hc4 => ?_)
            · -- yes 4
              have hi : (i : Int) < (ps.length : Int) := of_decide_eq_true hc4
              obtain ⟨p, hp⟩ : ∃ p, ps[i]? = some p := ⟨ps[i]'(by omega), List.getElem?_eq_getElem (by omega)⟩
              have hpl : (ps.map Pt.l)[(i : Int).toNat]? = some p.l := by rw [Int.toNat_natCast, List.getElem?_map, hp]; rfl
              have hpm := List.mem_of_getElem? hp
              obtain ⟨bl, off, l0, fz, rfl, hb, hpt⟩ := hs.resolve_left (by intro h; rw [h] at hpl; simp at hpl)
              have hnp : pastB (nrOf (sel ps own)).n (nrOf (sel ps own)).d p = false := (past_iff (by have := hE.1.good.dpos; omega)).2 hE.2 p hpm
              refine cw_skip ?_
              refine at_then ?_
              refine cw_seq ?_
              refine cw_block ?_
              refine cw_sd mixed [0, 1, 2, 3, 4, 5] 0 _ (by kernel_rfl) (SubL.refl _) ?_
              refine qi_q rfl rfl (q_loadW 3 agg31 rfl rfl rfl) ?_  -- outright.go:32
              refine qi_q rfl rfl (q_move rfl) ?_  -- outright.go:32
              refine qi_q rfl rfl (q_move rfl) ?_  -- outright.go:32
              refine qi_q rfl rfl (q_indexSl slc22 rfl rfl (by omega) hi) ?_  -- outright.go:32
              refine qi_q rfl rfl (q_loadAo agg38 rfl hb (by simp) (hpt _ _ hpl)) ?_  -- outright.go:32
              refine qi_q rfl rfl (q_pure ent10 rfl (simplex_Past (m := ⟨(nrOf (sel ps own)).n, (nrOf (sel ps own)).d, .slice (some ⟨g, 0, none⟩) own.length cap⟩) hf.1 (by have := hf.2; dsimp only; omega) ((hok p hpm).mono (by decide)))) ?_  -- outright.go:32
              refine qi_nil ?_
              refine tail_nil (by kernel_rfl) ?_
              refine cw_cond _ rfl (fun hc5 => ?_) (fun hc5 => ?_)
              · have : pastB (nrOf (sel ps own)).n (nrOf (sel ps own)).d p = true := hc5
                rw [hnp] at this; cases this
              · -- no 5
                refine cw_skip ?_
                refine at_then ?_
                refine cw_region ?_
                refine steps_q rfl (q_move rfl) ?_  -- outright.go:31
                refine steps_q rfl (q_bin rfl rfl (add64 (by omega) (by omega))) ?_  -- outright.go:31
                refine steps_q rfl (q_assign rfl) ?_  -- outright.go:31
                refine steps_nil ?_
                exact at_round (i + 1) (by omega) (by omega) (subs ⟨rfl, rfl, rfl, by rw [show ((i + 1 : Nat) : Int) = i + 1 by omega]; rfl, trivial⟩) (subs ⟨rfl, rfl, trivial⟩)
            · -- no 4
              refine cw_exit ?_
              refine at_then ?_
              refine cw_sr ?_
              refine steps_q rfl (q_assign rfl) ?_  -- outright.go:36
              refine steps_nil ?_
              refine cw_seq ?_
              refine cw_sr ?_
              refine steps_q rfl (q_assign rfl) ?_  -- outright.go:37
              refine steps_nil ?_
              refine cw_block ?_
              -- LOOP 2 writes [8, 9, 61, 62, 63, 64, 65, 66, 67, 68, 69, 70, 71, 72, 73, 74, 75, 76, 77, 78, 79, 80, 81, 82, 83, 84, 85, 86, 87, 88, 89, 90, 91, 92, 93, 94, 95, 96, 97, 98, 99, 100, 101, 102, 103, 104, 105, 106, 107, 108, 109, 110, 111, 112]  stores via []  reads [0, 3]
              refine cw_loop (S := Nat × SV) (fun s => [(0, .slice a ps.length c0), (3, .pointer (some ⟨b3, 0, none⟩)), (5, .int .i64 steps), (8, s.2.v s.1), (9, .int .i64 s.1)]) (fun s => ([(3, (b3, .cells (Nr.l ⟨(nrOf (sel ps own)).n, (nrOf (sel ps own)).d, .slice (some ⟨g, 0, none⟩) own.length cap⟩).toArray 31 (0, 0))), (63, (g, .cells cur.toArray 3 (0, 0)))] : HL) ++ s.2.l 61 38) (fun s => s.1 ≤ own.length ∧ s.2.ok 3 (((sel ps own).take s.1).map Pt.l)) (fun s => own.length - s.1) (0, none) ⟨by dsimp only; omega, by simp [SV.ok]⟩ (subs ⟨rfl, rfl, rfl, rfl, rfl, trivial⟩) (subs ⟨rfl, rfl, trivial⟩) ?_
              rintro ⟨k, sv⟩ ⟨k1, hsk⟩
              dsimp only at k1 hsk
              conv => enter [7]; dsimp only
              conv => enter [8]; dsimp only
              have hsl := sel_len ps own
              have hkl : (((sel ps own).take k).map Pt.l).length = k := by rw [List.length_map, List.length_take, hsl]; omega
              refine cw_seq ?_
              refine cw_sr ?_
              refine steps_q rfl (q_move rfl) ?_  -- outright.go:37
              refine steps_q rfl (q_field fld31_2 rfl) ?_  -- outright.go:37
              refine steps_q rfl (q_load1 3 one29 rfl rfl rfl) ?_  -- outright.go:37
              refine steps_q rfl (q_lenSl Try.underlying29 rfl) ?_  -- outright.go:37
              refine steps_q rfl (q_bin rfl rfl rfl) ?_  -- outright.go:37
              refine steps_nil ?_
              refine cw_cond _ rfl (fun hc6 => ?_) (fun hc6 => ?_)
              · -- yes 6
                have hk : (k : Int) < (own.length : Int) := of_decide_eq_true hc6
                obtain ⟨m, hm⟩ : ∃ m, own[k]? = some m := ⟨own[k]'(by omega), List.getElem?_eq_getElem (by omega)⟩
                have hml : (own.map intC)[(k : Int).toNat]? = some (intC m) := by rw [Int.toNat_natCast, List.getElem?_map, hm]; rfl
                have hmb := hin m (List.mem_of_getElem? hm)
                have pm := ptI_get (ps := ps) hmb.1 hmb.2
                have pml : (ps.map Pt.l)[m.toNat]? = some (ptI ps m).l := by rw [List.getElem?_map, pm]; rfl
                have hsm : (sel ps own)[k]? = some (ptI ps m) := by rw [sel, List.getElem?_map, hm]; rfl
                have htk := take_more (f := Pt.l) hsm
                obtain ⟨bl, off, l0, fz, rfl, hb, hpt⟩ := hs.resolve_left (by intro h; rw [h] at pml; simp at pml)
                refine cw_skip ?_
                refine at_then ?_
                refine cw_seq ?_
                refine cw_block ?_
                refine cw_seq ?_
                rcases Decidable.em ((k : Int) > 0) with h0 | h0
                have hpk : ∃ q, own[k - 1]? = some q ∧ q < m := by
                  have hk1 : k - 1 < own.length := by omega
                  have hk2 : k < own.length := by omega
                  refine ⟨own[k - 1], List.getElem?_eq_getElem hk1, ?_⟩
                  have := List.pairwise_iff_getElem.1 hE.1.up (k - 1) k hk1 hk2 (by omega)
                  rw [List.getElem?_eq_getElem hk2] at hm
                  cases hm; exact this
                obtain ⟨q, hq, hqm⟩ := hpk
                have hql : (own.map intC)[((k : Int) - 1).toNat]? = some (intC q) := by rw [show ((k : Int) - 1).toNat = k - 1 by omega, List.getElem?_map, hq]; rfl
                · -- way 18.a
                  refine cw_sd mixed [0, 1, 2, 3, 4, 5, 6, 7, 8, 9, 10, 11, 12, 13, 14, 15, 16, 17, 18, 19, 20, 21, 22, 23, 24, 25, 26, 27, 28, 29, 30, 31, 32, 33] 0 _ (by kernel_rfl) (SubL.refl _) ?_
                  refine qi_q rfl rfl (q_field fld31_2 rfl) ?_  -- outright.go:38
                  refine qi_q rfl rfl (q_load1 3 one29 rfl rfl rfl) ?_  -- outright.go:38
                  refine qi_q rfl rfl (q_move rfl) ?_  -- outright.go:38
                  refine qi_q rfl rfl (q_indexSl slc29 rfl rfl (by omega) (by omega)) ?_  -- outright.go:38
                  refine qi_q rfl rfl (q_load1 63 one3 rfl rfl (part1 (SV.part hsv hml))) ?_  -- outright.go:38
                  refine qi_q rfl rfl (q_bin rfl rfl (lss_f (by omega))) ?_  -- outright.go:38
                  refine qi_q rfl rfl (q_move rfl) ?_  -- outright.go:38
                  refine qi_gq rfl rfl rfl rfl (q_field fld31_2 rfl) ?_  -- outright.go:38
                  refine qi_gq rfl rfl rfl rfl (q_load1 3 one29 rfl rfl rfl) ?_  -- outright.go:38
                  refine qi_gq rfl rfl rfl rfl (q_move rfl) ?_  -- outright.go:38
                  refine qi_gq rfl rfl rfl rfl (q_indexSl slc29 rfl rfl (by omega) (by omega)) ?_  -- outright.go:38
                  refine qi_gq rfl rfl rfl rfl (q_load1 63 one3 rfl rfl (part1 (SV.part hsv hml))) ?_  -- outright.go:38
                  refine qi_gq rfl rfl rfl rfl (q_move rfl) ?_  -- outright.go:38
                  refine qi_gq rfl rfl rfl rfl (q_lenSl Try.underlying22 rfl) ?_  -- outright.go:38
                  refine qi_gq rfl rfl rfl rfl (q_bin rfl rfl (geq_f (by omega))) ?_  -- outright.go:38
                  refine qi_q rfl rfl (q_pick_f rfl rfl) ?_  -- outright.go:38
                  refine qi_q rfl rfl (q_move rfl) ?_  -- outright.go:38
                  refine qi_gq rfl rfl rfl rfl (q_move rfl) ?_  -- outright.go:38
                  refine qi_gq rfl rfl rfl rfl (q_bin rfl rfl (gtr_t h0)) ?_  -- outright.go:38
                  refine qi_gq rfl rfl rfl rfl (q_move rfl) ?_  -- outright.go:38
                  refine qi_gq rfl rfl rfl rfl (q_field fld31_2 rfl) ?_  -- outright.go:38
                  refine qi_gq rfl rfl rfl rfl (q_load1 3 one29 rfl rfl rfl) ?_  -- outright.go:38
                  refine qi_gq rfl rfl rfl rfl (q_move rfl) ?_  -- outright.go:38
                  refine qi_gq rfl rfl rfl rfl (q_bin rfl rfl (sub64 (by omega) (by omega))) ?_  -- outright.go:38
                  refine qi_gq rfl rfl rfl rfl (q_indexSl slc29 rfl rfl (by omega) (by omega)) ?_  -- outright.go:38
                  refine qi_gq rfl rfl rfl rfl (q_load1 63 one3 rfl rfl (part1 (SV.part hsv hql))) ?_  -- outright.go:38
                  refine qi_gq rfl rfl rfl rfl (q_field fld31_2 rfl) ?_  -- outright.go:38
                  refine qi_gq rfl rfl rfl rfl (q_load1 3 one29 rfl rfl rfl) ?_  -- outright.go:38
                  refine qi_gq rfl rfl rfl rfl (q_move rfl) ?_  -- outright.go:38
                  refine qi_gq rfl rfl rfl rfl (q_indexSl slc29 rfl rfl (by omega) (by omega)) ?_  -- outright.go:38
                  refine qi_gq rfl rfl rfl rfl (q_load1 63 one3 rfl rfl (part1 (SV.part hsv hml))) ?_  -- outright.go:38
                  refine qi_gq rfl rfl rfl rfl (q_bin rfl rfl (geq_f (by omega))) ?_  -- outright.go:38
                  refine qi_gq rfl rfl rfl rfl (q_pick_t rfl rfl) ?_  -- outright.go:38
                  refine qi_q rfl rfl (q_pick_f rfl rfl) ?_  -- outright.go:38
                  refine qi_nil ?_
                  refine tail_nil (by kernel_rfl) ?_
                  refine cw_cond _ rfl (fun hc7 => ?_) (fun hc7 => ?_)
                  · cases hc7
                  · -- no 7
                    refine cw_skip ?_
                    refine at_then ?_
                    rcases sv with _ | ⟨g1, cur1, cap1⟩
                    · -- way 20.a
                      refine cw_region ?_
                      refine steps_q rfl (q_move rfl) ?_  -- outright.go:41
                      refine steps_q rfl (q_move rfl) ?_  -- outright.go:41
                      refine steps_q rfl (q_field fld31_2 rfl) ?_  -- outright.go:41
                      refine steps_q rfl (q_load1 3 one29 rfl rfl rfl) ?_  -- outright.go:41
                      refine steps_q rfl (q_move rfl) ?_  -- outright.go:41
                      refine steps_q rfl (q_indexSl slc29 rfl rfl (by omega) (by omega)) ?_  -- outright.go:41
                      refine steps_q rfl (q_load1 63 one3 rfl rfl (part1 (SV.part hsv hml))) ?_  -- outright.go:41
                      refine steps_q rfl (q_indexSl slc22 rfl rfl hmb.1 hmb.2) ?_  -- outright.go:41
                      refine steps_q rfl (q_loadAo agg38 rfl hb (by simp) (hpt _ _ pml)) ?_  -- outright.go:41
                      refine steps_s (s_buildSl 111 rfl rfl rfl (bslP (ptI ps m)) fun b111 => ?_)  -- outright.go:41
                      refine steps_s (s_appendN 61 111 none k (((sel ps own).take k).map Pt.l) (ptI ps m).l hkl elt22 rfl rfl hsk (subs trivial) rfl rfl rfl rfl (by omega) (by unfold maxLen; omega) fun g1 cur1 cap1 hk1 => ?_)  -- outright.go:41
                      refine steps_q rfl (q_assign rfl) ?_  -- outright.go:41
                      refine steps_nil ?_
                      refine at_then ?_
                      refine cw_region ?_
                      refine steps_q rfl (q_move rfl) ?_  -- outright.go:37
                      refine steps_q rfl (q_bin rfl rfl (add64 (by omega) (by omega))) ?_  -- outright.go:37
                      refine steps_q rfl (q_assign rfl) ?_  -- outright.go:37
                      refine steps_nil ?_
                      exact at_round (k + 1, some (g1, cur1, cap1)) ⟨by dsimp only; omega, by dsimp only; rw [htk]; exact hk1⟩ (by dsimp only; omega) (subs ⟨rfl, rfl, rfl, rfl, by dsimp only; rw [show ((k + 1 : Nat) : Int) = k + 1 by omega]; rfl, trivial⟩) (subs ⟨rfl, rfl, rfl, trivial⟩)
                    · -- way 20.b
                      refine cw_region ?_
                      refine steps_q rfl (q_move rfl) ?_  -- outright.go:41
                      refine steps_q rfl (q_move rfl) ?_  -- outright.go:41
                      refine steps_q rfl (q_field fld31_2 rfl) ?_  -- outright.go:41
                      refine steps_q rfl (q_load1 3 one29 rfl rfl rfl) ?_  -- outright.go:41
                      refine steps_q rfl (q_move rfl) ?_  -- outright.go:41
                      refine steps_q rfl (q_indexSl slc29 rfl rfl (by omega) (by omega)) ?_  -- outright.go:41
                      refine steps_q rfl (q_load1 63 one3 rfl rfl (part1 (SV.part hsv hml))) ?_  -- outright.go:41
                      refine steps_q rfl (q_indexSl slc22 rfl rfl hmb.1 hmb.2) ?_  -- outright.go:41
                      refine steps_q rfl (q_loadAo agg38 rfl hb (by simp) (hpt _ _ pml)) ?_  -- outright.go:41
                      refine steps_s (s_buildSl 111 rfl rfl rfl (bslP (ptI ps m)) fun b111 => ?_)  -- outright.go:41
                      refine steps_s (s_appendN 61 111 (some (g1, cur1, cap1)) k (((sel ps own).take k).map Pt.l) (ptI ps m).l hkl elt22 rfl rfl hsk (subs ⟨rfl, trivial⟩) rfl rfl rfl rfl (by omega) (by unfold maxLen; omega) fun g1 cur1 cap1 hk1 => ?_)  -- outright.go:41
                      refine steps_q rfl (q_assign rfl) ?_  -- outright.go:41
                      refine steps_nil ?_
                      refine at_then ?_
                      refine cw_region ?_
                      refine steps_q rfl (q_move rfl) ?_  -- outright.go:37
                      refine steps_q rfl (q_bin rfl rfl (add64 (by omega) (by omega))) ?_  -- outright.go:37
                      refine steps_q rfl (q_assign rfl) ?_  -- outright.go:37
                      refine steps_nil ?_
                      exact at_round (k + 1, some (g1, cur1, cap1)) ⟨by dsimp only; omega, by dsimp only; rw [htk]; exact hk1⟩ (by dsimp only; omega) (subs ⟨rfl, rfl, rfl, rfl, by dsimp only; rw [show ((k + 1 : Nat) : Int) = k + 1 by omega]; rfl, trivial⟩) (subs ⟨rfl, rfl, rfl, trivial⟩)
                · -- way 18.b
                  refine cw_sd mixed [0, 1, 2, 3, 4, 5, 6, 7, 8, 9, 10, 11, 12, 13, 14, 15, 16, 17, 18, 19, 20, 21, 22, 23, 24, 25, 26, 27, 28, 29, 30, 31, 32, 33] 0 _ (by kernel_rfl) (SubL.refl _) ?_
                  refine qi_q rfl rfl (q_field fld31_2 rfl) ?_  -- outright.go:38
                  refine qi_q rfl rfl (q_load1 3 one29 rfl rfl rfl) ?_  -- outright.go:38
                  refine qi_q rfl rfl (q_move rfl) ?_  -- outright.go:38
                  refine qi_q rfl rfl (q_indexSl slc29 rfl rfl (by omega) (by omega)) ?_  -- outright.go:38
                  refine qi_q rfl rfl (q_load1 63 one3 rfl rfl (part1 (SV.part hsv hml))) ?_  -- outright.go:38
                  refine qi_q rfl rfl (q_bin rfl rfl (lss_f (by omega))) ?_  -- outright.go:38
                  refine qi_q rfl rfl (q_move rfl) ?_  -- outright.go:38
                  refine qi_gq rfl rfl rfl rfl (q_field fld31_2 rfl) ?_  -- outright.go:38
                  refine qi_gq rfl rfl rfl rfl (q_load1 3 one29 rfl rfl rfl) ?_  -- outright.go:38
                  refine qi_gq rfl rfl rfl rfl (q_move rfl) ?_  -- outright.go:38
                  refine qi_gq rfl rfl rfl rfl (q_indexSl slc29 rfl rfl (by omega) (by omega)) ?_  -- outright.go:38
                  refine qi_gq rfl rfl rfl rfl (q_load1 63 one3 rfl rfl (part1 (SV.part hsv hml))) ?_  -- outright.go:38
                  refine qi_gq rfl rfl rfl rfl (q_move rfl) ?_  -- outright.go:38
                  refine qi_gq rfl rfl rfl rfl (q_lenSl Try.underlying22 rfl) ?_  -- outright.go:38
                  refine qi_gq rfl rfl rfl rfl (q_bin rfl rfl (geq_f (by omega))) ?_  -- outright.go:38
                  refine qi_q rfl rfl (q_pick_f rfl rfl) ?_  -- outright.go:38
                  refine qi_q rfl rfl (q_move rfl) ?_  -- outright.go:38
                  refine qi_gq rfl rfl rfl rfl (q_move rfl) ?_  -- outright.go:38
                  refine qi_gq rfl rfl rfl rfl (q_bin rfl rfl (gtr_f h0)) ?_  -- outright.go:38
                  refine qi_gq rfl rfl rfl rfl (q_move rfl) ?_  -- outright.go:38
                  refine qi_gn rfl rfl rfl rfl rfl ?_  -- outright.go:38
                  refine qi_gn rfl rfl rfl rfl rfl ?_  -- outright.go:38
                  refine qi_gn rfl rfl rfl rfl rfl ?_  -- outright.go:38
                  refine qi_gn rfl rfl rfl rfl rfl ?_  -- outright.go:38
                  refine qi_gn rfl rfl rfl rfl rfl ?_  -- outright.go:38
                  refine qi_gn rfl rfl rfl rfl rfl ?_  -- outright.go:38
                  refine qi_gn rfl rfl rfl rfl rfl ?_  -- outright.go:38
                  refine qi_gn rfl rfl rfl rfl rfl ?_  -- outright.go:38
                  refine qi_gn rfl rfl rfl rfl rfl ?_  -- outright.go:38
                  refine qi_gn rfl rfl rfl rfl rfl ?_  -- outright.go:38
                  refine qi_gn rfl rfl rfl rfl rfl ?_  -- outright.go:38
                  refine qi_gn rfl rfl rfl rfl rfl ?_  -- outright.go:38
                  refine qi_gq rfl rfl rfl rfl (q_pick_f rfl rfl) ?_  -- outright.go:38
                  refine qi_q rfl rfl (q_pick_f rfl rfl) ?_  -- outright.go:38
                  refine qi_nil ?_
                  refine tail_nil (by kernel_rfl) ?_
                  refine cw_cond _ rfl (fun hc7 => ?_) (fun hc7 => ?_)
                  · cases hc7
                  · -- no 7
                    refine cw_skip ?_
                    refine at_then ?_
                    rcases sv with _ | ⟨g1, cur1, cap1⟩
                    · -- way 20.a
                      refine cw_region ?_
                      refine steps_q rfl (q_move rfl) ?_  -- outright.go:41
                      refine steps_q rfl (q_move rfl) ?_  -- outright.go:41
                      refine steps_q rfl (q_field fld31_2 rfl) ?_  -- outright.go:41
                      refine steps_q rfl (q_load1 3 one29 rfl rfl rfl) ?_  -- outright.go:41
                      refine steps_q rfl (q_move rfl) ?_  -- outright.go:41
                      refine steps_q rfl (q_indexSl slc29 rfl rfl (by omega) (by omega)) ?_  -- outright.go:41
                      refine steps_q rfl (q_load1 63 one3 rfl rfl (part1 (SV.part hsv hml))) ?_  -- outright.go:41
                      refine steps_q rfl (q_indexSl slc22 rfl rfl hmb.1 hmb.2) ?_  -- outright.go:41
                      refine steps_q rfl (q_loadAo agg38 rfl hb (by simp) (hpt _ _ pml)) ?_  -- outright.go:41
                      refine steps_s (s_buildSl 111 rfl rfl rfl (bslP (ptI ps m)) fun b111 => ?_)  -- outright.go:41
                      refine steps_s (s_appendN 61 111 none k (((sel ps own).take k).map Pt.l) (ptI ps m).l hkl elt22 rfl rfl hsk (subs trivial) rfl rfl rfl rfl (by omega) (by unfold maxLen; omega) fun g1 cur1 cap1 hk1 => ?_)  -- outright.go:41
                      refine steps_q rfl (q_assign rfl) ?_  -- outright.go:41
                      refine steps_nil ?_
                      refine at_then ?_
                      refine cw_region ?_
                      refine steps_q rfl (q_move rfl) ?_  -- outright.go:37
                      refine steps_q rfl (q_bin rfl rfl (add64 (by omega) (by omega))) ?_  -- outright.go:37
                      refine steps_q rfl (q_assign rfl) ?_  -- outright.go:37
                      refine steps_nil ?_
                      exact at_round (k + 1, some (g1, cur1, cap1)) ⟨by dsimp only; omega, by dsimp only; rw [htk]; exact hk1⟩ (by dsimp only; omega) (subs ⟨rfl, rfl, rfl, rfl, by dsimp only; rw [show ((k + 1 : Nat) : Int) = k + 1 by omega]; rfl, trivial⟩) (subs ⟨rfl, rfl, rfl, trivial⟩)
                    · -- way 20.b
                      refine cw_region ?_
                      refine steps_q rfl (q_move rfl) ?_  -- outright.go:41
                      refine steps_q rfl (q_move rfl) ?_  -- outright.go:41
                      refine steps_q rfl (q_field fld31_2 rfl) ?_  -- outright.go:41
                      refine steps_q rfl (q_load1 3 one29 rfl rfl rfl) ?_  -- outright.go:41
                      refine steps_q rfl (q_move rfl) ?_  -- outright.go:41
                      refine steps_q rfl (q_indexSl slc29 rfl rfl (by omega) (by omega)) ?_  -- outright.go:41
                      refine steps_q rfl (q_load1 63 one3 rfl rfl (part1 (SV.part hsv hml))) ?_  -- outright.go:41
                      refine steps_q rfl (q_indexSl slc22 rfl rfl hmb.1 hmb.2) ?_  -- outright.go:41
                      refine steps_q rfl (q_loadAo agg38 rfl hb (by simp) (hpt _ _ pml)) ?_  -- outright.go:41
                      refine steps_s (s_buildSl 111 rfl rfl rfl (bslP (ptI ps m)) fun b111 => ?_)  -- outright.go:41
                      refine steps_s (s_appendN 61 111 (some (g1, cur1, cap1)) k (((sel ps own).take k).map Pt.l) (ptI ps m).l hkl elt22 rfl rfl hsk (subs ⟨rfl, trivial⟩) rfl rfl rfl rfl (by omega) (by unfold maxLen; omega) fun g1 cur1 cap1 hk1 => ?_)  -- outright.go:41
                      refine steps_q rfl (q_assign rfl) ?_  -- outright.go:41
                      refine steps_nil ?_
                      refine at_then ?_
                      refine cw_region ?_
                      refine steps_q rfl (q_move rfl) ?_  -- outright.go:37
                      refine steps_q rfl (q_bin rfl rfl (add64 (by omega) (by omega))) ?_  -- outright.go:37
                      refine steps_q rfl (q_assign rfl) ?_  -- outright.go:37
                      refine steps_nil ?_
                      exact at_round (k + 1, some (g1, cur1, cap1)) ⟨by dsimp only; omega, by dsimp only; rw [htk]; exact hk1⟩ (by dsimp only; omega) (subs ⟨rfl, rfl, rfl, rfl, by dsimp only; rw [show ((k + 1 : Nat) : Int) = k + 1 by omega]; rfl, trivial⟩) (subs ⟨rfl, rfl, rfl, trivial⟩)
              · -- no 6
                have hk : ¬ (k : Int) < (own.length : Int) := of_decide_eq_false hc6
                have hkc : k = own.length := by omega
                subst hkc
                rw [List.take_of_length_le (by omega)] at hsk hkl
                rcases sv with _ | ⟨g1, cur1, cap1⟩
                · exfalso
                  have := SV.len0 hsk
                  omega
                have hsok := sel_ok hok hin
                have hse := errPts_ok hsok (by omega)
                have hrk := (rank_full hE.1.good.ne hE.1.good.le).2 (by have := hE.1.good.dpos; omega)
                rw [hsl] at hrk
                refine cw_exit ?_
                refine at_then ?_
                refine cw_sr ?_
                refine steps_q rfl (q_move rfl) ?_  -- outright.go:43
                refine steps_q rfl (q_call ent11 rfl rfl (fun w' hw => by have h0 : PtsAt w' (.slice (some ⟨g1, 0, none⟩) own.length cap1) (sel ps own) := (by have := SlAt.own (q := some (g1, cur1, cap1)) (i := 61) (e := 38) hw (subs ⟨rfl, trivial⟩) hsk; rwa [hkl] at this); simpa using orient_Rank w' h0 (by omega))) ?_  -- outright.go:43
                rw [if_pos hse, hse, hrk]
                refine steps_q rfl (q_move rfl) ?_  -- outright.go:43
                refine steps_q rfl (q_extract rfl rfl) ?_  -- outright.go:43
                refine steps_q rfl (q_extract rfl rfl) ?_  -- outright.go:43
                refine steps_q rfl (q_assign rfl) ?_  -- outright.go:43
                refine steps_q rfl (q_assign rfl) ?_  -- outright.go:43
                refine steps_nil ?_
                refine cw_sr ?_
                refine steps_q rfl (q_move rfl) ?_  -- outright.go:44
                refine steps_s (s_callSt ent12 rfl rfl rfl (R := NR (sel ps own)) (fun w' hw => by have h0 : PtsAt w' (.slice (some ⟨g1, 0, none⟩) own.length cap1) (sel ps own) := (by have := SlAt.own (q := some (g1, cur1, cap1)) (i := 61) (e := 38) hw (subs ⟨rfl, trivial⟩) hsk; rwa [hkl] at this); simpa using simplex_Near_ok w' h0 hsok (by omega) (by omega)) fun v Ln hZ => ?_)  -- outright.go:44
                obtain ⟨c, g2, cur2, cap2, hc, ht, rfl, rfl, hsv2⟩ := hZ
                obtain ⟨esame, elen⟩ := again_same hE hc ht
                rw [esame]
                refine steps_q rfl (q_move rfl) ?_  -- outright.go:44
                refine steps_q rfl (q_extract rfl rfl) ?_  -- outright.go:44
                refine steps_q rfl (q_extract rfl rfl) ?_  -- outright.go:44
                refine steps_s (s_allocA 12 rfl zer31 fun b12 => ?_)  -- outright.go:44
                refine steps_s (s_storeW 12 siz31 rfl rfl rfl rfl rfl rfl ?_)  -- outright.go:44
                refine steps_q rfl (q_assign rfl) ?_  -- outright.go:44
                refine steps_nil ?_
                refine cw_sr ?_
                refine steps_q rfl (q_move rfl) ?_  -- outright.go:45
                refine steps_q rfl (q_bin rfl rfl (eql_t rfl)) ?_  -- outright.go:45
                refine steps_q rfl (q_move rfl) ?_  -- outright.go:45
                refine steps_gq rfl rfl rfl (q_move rfl) ?_  -- outright.go:45
                refine steps_gq rfl rfl rfl (q_move rfl) ?_  -- outright.go:45
                refine steps_gq rfl rfl rfl (q_lenSl Try.underlying22 rfl) ?_  -- outright.go:45
                refine steps_gq rfl rfl rfl (q_bin rfl rfl (sub64 (by omega) (by omega))) ?_  -- outright.go:45
                refine steps_gq rfl rfl rfl (q_bin rfl rfl (eql_t rfl)) ?_  -- outright.go:45
                refine steps_q rfl (q_pick_t rfl rfl) ?_  -- outright.go:45
                refine steps_q rfl (q_move rfl) ?_  -- outright.go:45
                refine steps_gq rfl rfl rfl (q_move rfl) ?_  -- outright.go:45
                refine steps_gq rfl rfl rfl (q_bin rfl rfl (eql_t rfl)) ?_  -- outright.go:45
                refine steps_q rfl (q_pick_t rfl rfl) ?_  -- outright.go:45
                refine steps_q rfl (q_move rfl) ?_  -- outright.go:45
                refine steps_gq rfl rfl rfl (q_loadW 12 agg31 rfl rfl rfl) ?_  -- outright.go:45
                refine steps_gq rfl rfl rfl (q_loadW 3 agg31 rfl rfl rfl) ?_  -- outright.go:45
                refine steps_gq rfl rfl rfl (q_pure ent8 rfl (law_same (a := ⟨(nrOf (sel ps own)).n, (nrOf (sel ps own)).d, .slice (some ⟨g2, 0, none⟩) c.length cap2⟩) (b := ⟨(nrOf (sel ps own)).n, (nrOf (sel ps own)).d, .slice (some ⟨g, 0, none⟩) own.length cap⟩) (in_fits hf.1) (in_fits hf.1) (fitsD hf.2) (fitsD hf.2))) ?_  -- outright.go:45
                rw [same_self ⟨(nrOf (sel ps own)).n, (nrOf (sel ps own)).d, .slice (some ⟨g2, 0, none⟩) c.length cap2⟩ ⟨(nrOf (sel ps own)).n, (nrOf (sel ps own)).d, .slice (some ⟨g, 0, none⟩) own.length cap⟩ rfl rfl]
                refine steps_q rfl (q_pick_t rfl rfl) ?_  -- outright.go:45
                refine steps_q rfl (q_move rfl) ?_  -- outright.go:45
                refine steps_gq rfl rfl rfl (q_field fld31_2 rfl) ?_  -- outright.go:45
                refine steps_gq rfl rfl rfl (q_load1 12 one29 rfl rfl rfl) ?_  -- outright.go:45
                refine steps_gq rfl rfl rfl (q_lenSl Try.underlying29 rfl) ?_  -- outright.go:45
                refine steps_gq rfl rfl rfl (q_move rfl) ?_  -- outright.go:45
                refine steps_gq rfl rfl rfl (q_lenSl Try.underlying22 rfl) ?_  -- outright.go:45
                refine steps_gq rfl rfl rfl (q_bin rfl rfl (eql_t (by omega))) ?_  -- outright.go:45
                refine steps_q rfl (q_pick_t rfl rfl) ?_  -- outright.go:45
                refine steps_q rfl (q_move rfl) ?_  -- outright.go:45
                refine steps_gq rfl rfl rfl (q_move rfl) ?_  -- outright.go:45
                refine steps_gq rfl rfl rfl (q_bin rfl rfl (geq_t (by omega))) ?_  -- outright.go:45
                refine steps_q rfl (q_pick_t rfl rfl) ?_  -- outright.go:45
                refine steps_q rfl (q_move rfl) ?_  -- outright.go:45
                refine steps_gq rfl rfl rfl (q_move rfl) ?_  -- outright.go:45
                refine steps_gq rfl rfl rfl (q_move rfl) ?_  -- outright.go:45
                refine steps_gq rfl rfl rfl (q_lenSl Try.underlying22 rfl) ?_  -- outright.go:45
                refine steps_gq rfl rfl rfl (q_pure ent13 rfl (law_choices h60)) ?_  -- outright.go:45
                refine steps_gq rfl rfl rfl (q_bin rfl rfl (leq_t s2)) ?_  -- outright.go:45
                refine steps_q rfl (q_pick_t rfl rfl) ?_  -- outright.go:45
                refine steps_q rfl (q_move rfl) ?_  -- outright.go:45
                refine steps_gq rfl rfl rfl (q_pure ent7 rfl law_awake) ?_  -- outright.go:45
                refine steps_q rfl (q_pick_t rfl rfl) ?_  -- outright.go:45
                refine steps_q rfl (q_assign rfl) ?_  -- outright.go:45
                refine steps_nil ?_
                refine cw_ret ?_
                exact ret_pure rfl (rv_tmp rfl rv_nil) rfl
    · refine calls_of Try.func4 rfl Try.ntmps4 rfl (St.start w) (args := [.slice a ps.length c0]) ?_
      refine cw_sr ?_
      refine steps_q rfl (q_assign rfl) ?_  -- outright.go:19
      refine steps_nil ?_
      refine cw_seq ?_
      refine cw_sr ?_
      refine steps_q rfl (q_move rfl) ?_  -- outright.go:20
      refine steps_q rfl (q_lenSl Try.underlying22 rfl) ?_  -- outright.go:20
      refine steps_q rfl (q_bin rfl rfl (gtr_f (by omega))) ?_  -- outright.go:20
      refine steps_nil ?_
      refine cw_cond _ rfl (fun hc1 => ?_) (fun hc1 => ?_)
      · cases hc1
      · -- no 1
        refine cw_skip ?_
        refine at_then ?_
        refine cw_sr ?_
        refine steps_q rfl (q_move rfl) ?_  -- outright.go:23
        refine steps_q rfl (q_call ent6 rfl rfl (fun w' hw => by simpa using gjk_Near_bad w' (SlAt.st hv0 hw) hl he)) ?_  -- outright.go:23
        refine steps_q rfl (q_move rfl) ?_  -- outright.go:23
        refine steps_q rfl (q_extract rfl rfl) ?_  -- outright.go:23
        refine steps_q rfl (q_extract rfl rfl) ?_  -- outright.go:23
        refine steps_s (s_allocA 3 rfl zer31 fun b3 => ?_)  -- outright.go:23
        refine steps_s (s_storeW 3 siz31 rfl rfl rfl rfl rfl rfl ?_)  -- outright.go:23
        refine steps_q rfl (q_assign rfl) ?_  -- outright.go:23
        refine steps_nil ?_
        refine cw_sr ?_
        refine steps_q rfl (q_move rfl) ?_  -- outright.go:24
        refine steps_q rfl (q_call ent9 rfl rfl (fun w' hw => by simpa using gjk_Steps_bad w' (SlAt.st hv0 hw) hl he)) ?_  -- outright.go:24
        refine steps_q rfl (q_move rfl) ?_  -- outright.go:24
        refine steps_q rfl (q_extract rfl rfl) ?_  -- outright.go:24
        refine steps_q rfl (q_extract rfl rfl) ?_  -- outright.go:24
        refine steps_q rfl (q_assign rfl) ?_  -- outright.go:24
        refine steps_q rfl (q_assign rfl) ?_  -- outright.go:24
        refine steps_nil ?_
        refine cw_seq ?_
        refine cw_sr ?_
        refine steps_q rfl (q_move rfl) ?_  -- outright.go:25
        refine steps_q rfl (q_move rfl) ?_  -- outright.go:25
        refine steps_q rfl (q_bin rfl rfl (neq_f rfl)) ?_  -- outright.go:25
        refine steps_nil ?_
        refine cw_cond _ rfl (fun hc2 => ?_) (fun hc2 => ?_)
        · cases hc2
        · -- no 2
          refine cw_skip ?_
          refine at_then ?_
          refine cw_seq ?_
          refine cw_sr ?_
          refine steps_q rfl (q_move rfl) ?_  -- outright.go:28
          refine steps_q rfl (q_bin rfl rfl (neq_t he)) ?_  -- outright.go:28
          refine steps_nil ?_
          refine cw_cond _ rfl (fun hc3 => ?_) (fun hc3 => ?_)
          · -- yes 3
            refine cw_sr ?_
            refine steps_q rfl (q_loadW 3 agg31 rfl rfl rfl) ?_  -- outright.go:29
            refine steps_q rfl (q_build (vs := []) rfl rfl bldN0) ?_  -- outright.go:29
            refine steps_q rfl (q_pure ent8 rfl (law_same (a := nrZ) (b := nrZ) z3fits z3fits fits0 fits0)) ?_  -- outright.go:29
            rw [same_self nrZ nrZ rfl rfl]
            refine steps_q rfl (q_move rfl) ?_  -- outright.go:29
            refine steps_gq rfl rfl rfl (q_field fld31_2 rfl) ?_  -- outright.go:29
            refine steps_gq rfl rfl rfl (q_load1 3 one29 rfl rfl rfl) ?_  -- outright.go:29
            refine steps_gq rfl rfl rfl (q_lenSl Try.underlying29 rfl) ?_  -- outright.go:29
            refine steps_gq rfl rfl rfl (q_bin rfl rfl (eql_t rfl)) ?_  -- outright.go:29
            refine steps_q rfl (q_pick_t rfl rfl) ?_  -- outright.go:29
            refine steps_q rfl (q_move rfl) ?_  -- outright.go:29
            refine steps_gq rfl rfl rfl (q_move rfl) ?_  -- outright.go:29
            refine steps_gq rfl rfl rfl (q_bin rfl rfl (eql_t rfl)) ?_  -- outright.go:29
            refine steps_q rfl (q_pick_t rfl rfl) ?_  -- outright.go:29
            refine steps_q rfl (q_move rfl) ?_  -- outright.go:29
            refine steps_gq rfl rfl rfl (q_pure ent7 rfl law_awake) ?_  -- outright.go:29
            refine steps_q rfl (q_pick_t rfl rfl) ?_  -- outright.go:29
            refine steps_q rfl (q_assign rfl) ?_  -- outright.go:29
            refine steps_nil ?_
            refine cw_ret ?_
            exact ret_pure rfl (rv_tmp rfl rv_nil) rfl
          · cases hc3
  · refine calls_of Try.func4 rfl Try.ntmps4 rfl (St.start w) (args := [.slice a ps.length c0]) ?_
    refine cw_sr ?_
    refine steps_q rfl (q_assign rfl) ?_  -- outright.go:19
    refine steps_nil ?_
    refine cw_seq ?_
    refine cw_sr ?_
    refine steps_q rfl (q_move rfl) ?_  -- outright.go:20
    refine steps_q rfl (q_lenSl Try.underlying22 rfl) ?_  -- outright.go:20
    refine steps_q rfl (q_bin rfl rfl (gtr_t (by omega))) ?_  -- outright.go:20
    refine steps_nil ?_
    refine cw_cond _ rfl (fun hc1 => ?_) (fun hc1 => ?_)
    · -- yes 1
      refine cw_sr ?_
      refine steps_q rfl (q_pure ent7 rfl law_awake) ?_  -- outright.go:21
      refine steps_q rfl (q_assign rfl) ?_  -- outright.go:21
      refine steps_nil ?_
      refine cw_ret ?_
      exact ret_pure rfl (rv_tmp rfl rv_nil) rfl
    · cases hc1
end Go.Proofs.Ytomdahjakkifbaa

/-
  From a walk that turns nothing old to a row: arguments read; behind the call they read as before.
-/
namespace Go.Proofs.Ytomdahjakkifbaa
open Go Go.NP Go.RowKit Go.Proofs Go.ChangeShapes Go.WideShapes Go.ChangeAt
set_option maxRecDepth 100000

theorem Try.own : ownKnob Try.prog.godebug = none := by kernel_rfl
theorem Try.laidOut : laidOutB Try.prog = true := by kernel_rfl
section
variable {H : Type} {enc : TypeId × Value → H} {P : Program}
theorem trodAll_below (hl : laidOutB P = true) {W W' : World} (hb : Below W.heap.size W W') : ∀ {ts : List TypeId} {vs : List Value} {ds : List (DataW H)} {ps : List MemPlace}, (∀ t ∈ ts, P.readableRec t = true ∧ t < P.types.size) →
    DataW.TrodAll enc P W 0 (fun _ => true) true ts vs ds ps → (∀ x ∈ ps, x.block < W.heap.size) → DataW.TrodAll enc P W' 0 (fun b => decide (b < W.heap.size)) true ts vs ds ps
  | [], [], [], ps, _, h, _ => h
  | t :: ts, v :: vs, d :: ds, ps, ht, ⟨p, q, h1, h2, h3⟩, hlt => by
    have hm := ht t (by simp)
    refine ⟨p, q, Below.trod hl hm.1 hm.2 h1 hb (fun x hx => hlt x (by rw [h3]; simp [hx])), trodAll_below hl hb (fun t' ht' => ht t' (by simp [ht'])) h2 (fun x hx => hlt x (by rw [h3]; simp [hx])), h3⟩
  | [], _ :: _, _, _, _, h, _ => h.elim
  | [], [], _ :: _, _, _, h, _ => h.elim
  | _ :: _, [], _, _, _, h, _ => h.elim
  | _ :: _, _ :: _, [], _, _, h, _ => h.elim
/-- Behind a call that turns nothing old, and answers true. -/
theorem law_post {f : Func} {s : ChangeSpec} {W W' : World} {args : Array Value} {ds : List (DataW H)} {before : List MemPlace} {tb : TypeId} (hl : laidOutB P = true) (hvars : s.vars = []) (hbt : P.underlying tb = some .bool) (hrt : f.resultTypes = #[tb])
    (hW : DataW.Whole enc P f.params.toList s.vars false W args.toList ds [] before) (hA : DataW.TrodAll enc P W 0 (fun _ => true) true f.params.toList args.toList ds before) (hp : ∀ t ∈ f.params.toList, P.readableRec t = true ∧ t < P.types.size)
    (hs : s.fn H (ds ++ []) = { results := [.lit (.bool true)], args := ds }) (hb : Below W.heap.size W W') : s.post enc P f false true false false W args (.bool true) W' := by
  refine ⟨ds, [], before, [], before, [], hW, ?_, ?_, ?_, hb.frame _, fun h => by cases h⟩
  · rw [hs, hrt]
    exact trodAll_mk1 (shut_bool hbt true)
  · rw [hs]
    exact trodAll_below hl hb hp hA fun x hx => by simpa using hW.lt x hx
  · rw [hs, hvars]; rfl
end

/-! ## Reading points -/
theorem open_pt {H : Type} {enc : TypeId × Value → H} {w : World} {base : Nat} {spare : Nat → Bool} {held : Bool} {fuel : Nat} {cs : List Value} {y : DataW H × List MemPlace}
    (h : DataW.trod enc Try.prog w base spare held fuel 38 cs = some y) : ∃ p : Pt, cs = p.l ∧ p.In 9223372036854775808 := by
  obtain ⟨xs, n, _, _, hlen, hxl, hf⟩ := DataW.trod_struct Try.underlying38 h
  have hc : Try.prog.cellsOf 38 = 3 := by kernel_rfl
  have hc1 : Try.prog.cellsOf 2 = 1 := by kernel_rfl
  rw [hc] at hlen
  obtain ⟨x, y, z, rfl⟩ : ∃ x y z, cs = [x, y, z] := by
    match cs, hlen with
    | [x, y, z], _ => exact ⟨x, y, z, rfl⟩
  obtain ⟨q0, q1, q2, rfl⟩ : ∃ q0 q1 q2, xs = [q0, q1, q2] := by
    match xs, hxl with
    | [x, y, z], _ => exact ⟨x, y, z, rfl⟩
  have e0 := hf 0 _ rfl
  have e1 := hf 1 _ rfl
  have e2 := hf 2 _ rfl
  change DataW.trod enc Try.prog w base spare held n 2 ((([x, y, z] : List Value).drop 0).take (Try.prog.cellsOf 2)) = _ at e0
  change DataW.trod enc Try.prog w base spare held n 2 ((([x, y, z] : List Value).drop 1).take (Try.prog.cellsOf 2)) = _ at e1
  change DataW.trod enc Try.prog w base spare held n 2 ((([x, y, z] : List Value).drop 2).take (Try.prog.cellsOf 2)) = _ at e2
  rw [hc1] at e0 e1 e2
  obtain ⟨a, ha, _, wa⟩ := DataW.trod_int Try.underlying2 e0
  obtain ⟨b, hb, _, wb⟩ := DataW.trod_int Try.underlying2 e1
  obtain ⟨c, hc', _, wc⟩ := DataW.trod_int Try.underlying2 e2
  simp at ha hb hc'
  subst ha hb hc'
  refine ⟨⟨a, b, c⟩, rfl, ?_⟩
  have k : ∀ {n : Int}, (Lit.int .i64 n).wf = true → -9223372036854775808 ≤ n ∧ n ≤ 9223372036854775808 := fun h => by
    simp [Lit.wf, IntKind.min, IntKind.max, IntKind.signed, IntKind.bits] at h
    omega
  exact ⟨k wa, k wb, k wc⟩
theorem open_pts {H : Type} {enc : TypeId × Value → H} {w : World} {base : Nat} {spare : Nat → Bool} {held : Bool} {v : Value} {d : DataW H} {ps : List MemPlace} (hv : ∃ a len cap, v = .slice a len cap)
    (h : DataW.Trod enc Try.prog w base spare held 22 v d ps) : ∃ l : List Pt, PtsAt w v l ∧ l.length ≤ 9223372036854775807 := by
  obtain ⟨a0, n0, c0, rfl⟩ := hv
  obtain ⟨fuel, h⟩ := h
  have hc : Try.prog.cellsOf 38 = 3 := by kernel_rfl
  rcases DataW.trod_slice Try.underlying22 h with ⟨hcs, _⟩ | ⟨a, len, cap, elems, rest, n, _, hcs, _, _, hle, hmax, hlen, hel, _, _⟩
  · simp [Value.cells] at hcs
    obtain ⟨rfl, rfl, rfl⟩ := hcs
    exact ⟨[], SlAt.nil w _ _ _ _, by simp⟩
  · simp [Value.cells] at hcs
    obtain ⟨rfl, rfl, rfl⟩ := hcs
    have each : ∀ i, i < n0 → ∃ p : Pt, ∀ j v, p.l[j]? = some v → w.cell? (a.add (i * 3 + j)) = some v := by
      intro i hi
      have h1 := hel i hi
      rw [hc, List.getElem?_eq_getElem (by omega), Option.bind_eq_some_iff] at h1
      obtain ⟨cs, hcs, hy⟩ := h1
      obtain ⟨p, rfl, _⟩ := open_pt hy
      obtain ⟨_, _, hcell⟩ := World.cells?_some hcs
      refine ⟨p, fun j v hj => ?_⟩
      have hj3 : j < 3 := (List.getElem?_eq_some_iff.1 hj).1
      have := hcell j hj3
      rw [hj] at this
      rw [← this]
      congr 1
      unfold Addr.add
      split <;> split <;> (try split) <;> simp_all <;> omega
    obtain ⟨l, hll, hlp⟩ : ∃ l : List Pt, l.length = n0 ∧ ∀ i p, l[i]? = some p → ∀ j v, p.l[j]? = some v → w.cell? (a.add (i * 3 + j)) = some v := by
      have key : ∀ m, m ≤ n0 → ∃ l : List Pt, l.length = m ∧ ∀ i p, l[i]? = some p → ∀ j v, p.l[j]? = some v → w.cell? (a.add (i * 3 + j)) = some v := by
        intro m
        induction m with
        | zero => exact fun _ => ⟨[], rfl, fun i p h => by simp at h⟩
        | succ m ih =>
          intro hm
          obtain ⟨l, h1, h2⟩ := ih (by omega)
          obtain ⟨p, hp⟩ := each m (by omega)
          refine ⟨l ++ [p], by simp [h1], fun i q hq => ?_⟩
          by_cases hi : i < l.length
          · rw [List.getElem?_append_left hi] at hq; exact h2 i q hq
          · have : i = m := by have := (List.getElem?_eq_some_iff.1 hq).1; simp at this; omega
            subst this
            rw [List.getElem?_append_right (by omega), h1] at hq
            simp at hq; subst hq; exact hp
      exact key n0 (Nat.le_refl _)
    refine ⟨l, ?_, by unfold maxLen at hmax; omega⟩
    have hvl : (Value.slice (some a) n0 c0) = .slice (some a) (l.map Pt.l).length c0 := by rw [List.length_map, hll]
    rw [hvl]
    by_cases hz : l = []
    · subst hz; exact ⟨_, _, rfl, .inl rfl⟩
    · refine ⟨_, _, rfl, .inr ?_⟩
      obtain ⟨p, r, rfl⟩ : ∃ p r, l = p :: r := by
        cases l with
        | nil => exact absurd rfl hz
        | cons p r => exact ⟨p, r, rfl⟩
      have hc0 := hlp 0 p rfl 0 _ rfl
      have hadd0 : a.add (0 * 3 + 0) = a := rfl
      rw [hadd0] at hc0
      obtain ⟨bb, off, spot⟩ := a
      obtain ⟨l0, e, fz, hheap, rfl⟩ : ∃ (l0 : List Value) (e : TypeId) (fz : Nat × Nat), w.heap[bb]? = some (.cells l0.toArray e fz) ∧ spot = none := by
        unfold World.cell? at hc0
        split at hc0
        · rename_i c e fz hh
          split at hc0
          · cases hc0
          · rename_i hsp
            exact ⟨c.toList, e, fz, by simpa using hh, by simpa using hsp⟩
        · cases hc0
      refine ⟨bb, off, l0, (e, fz), rfl, hheap, fun k x hx => ?_⟩
      rw [List.getElem?_map, Option.map_eq_some_iff] at hx
      obtain ⟨q, hq, rfl⟩ := hx
      have hq' := hlp k q hq
      have hcell : ∀ j v, q.l[j]? = some v → l0[off + k * 3 + j]? = some v := fun j v hj => by
        have := hq' j v hj
        rw [Addr.add_none] at this
        unfold World.cell? at this
        rw [hheap] at this
        simpa [Nat.add_assoc] using this
      have h0 := hcell 0 _ rfl
      have h1 := hcell 1 _ rfl
      have h2 := hcell 2 _ rfl
      refine ⟨?_, rfl⟩
      have hlen3 : off + k * 3 + 2 < l0.length := (List.getElem?_eq_some_iff.1 h2).1
      apply List.ext_getElem?
      intro j
      rw [List.getElem?_take, List.getElem?_drop]
      match j with
      | 0 => rw [if_pos (by omega)]; exact h0
      | 1 => rw [if_pos (by omega)]; exact h1
      | 2 => rw [if_pos (by omega)]; exact h2
      | j + 3 => rw [if_neg (by omega)]; rfl
end Go.Proofs.Ytomdahjakkifbaa
