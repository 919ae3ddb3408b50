/-
  The walks of package gjk: walk. The walks of package gjk: found, Near, Steps. The walks of package gjk: Less. The walks of package gjk: Apart, Meets; of the law: same, choices, box, awake. The walks of the law: box, awake. What the laws on the nearest point lean on: it is the only one, and with a point past it there is a nearer one. From a walk that turns nothing old to a row: arguments read; behind the call they read as before.
-/
import Derived.Test.YtomdahjakkifbaaGreatPf
import Derived.Test.YtomdahjakkifbaaGreatRows
import Derived.ProofKit
import Derived.Carry

/-
  The walks of package gjk: walk.
-/
namespace Go.Proofs.YtomdahjakkifbaaGreat
open Go Go.NP Go.RowKit Go.Proofs
set_option maxRecDepth 100000

theorem flat_vI : ∀ (xs : List Int), (xs.map intC).flatten = vI xs
  | [] => rfl
  | x :: r => by
    have := flat_vI r
    simp only [List.map_cons, List.flatten_cons, this, vI]
    rfl
theorem vI_len (xs : List Int) : (vI xs).length = xs.length := List.length_map _
theorem sv_vI {g : Nat} {cur : List Value} {cap : Nat} {xs : List Int} (h : SV.ok 1 (some (g, cur, cap)) (xs.map intC)) : ∃ rest, cur = vI xs ++ rest ∧ xs.length + rest.length = cap ∧ cap ≤ maxLen := by
  obtain ⟨h1, h2, h3, h4, h5⟩ := h
  rw [flat_vI, List.length_map, Nat.mul_one] at h4
  rw [List.length_map] at h2
  refine ⟨cur.drop xs.length, ?_, ?_, h3⟩
  · rw [← h4, List.take_append_drop]
  · rw [List.length_drop]; omega
theorem vI_sv {g cap : Nat} {rest : List Value} {zs : List Int} (h : zs.length + rest.length = cap) (h3 : cap ≤ maxLen) : SV.ok 1 (some (g, vI zs ++ rest, cap)) (zs.map intC) := by
  refine ⟨by rw [List.length_append, vI_len]; omega, by rw [List.length_map]; omega, h3, ?_, fun y hy => ?_⟩
  · rw [flat_vI, List.length_map, Nat.mul_one, ← vI_len zs, List.take_left]
  · obtain ⟨x, _, rfl⟩ := List.mem_map.1 hy; rfl
theorem past_of {S : List Pt} {p : Pt} (hd : 1 ≤ dI S) (h : pastB (nrOf S).n (nrOf S).d p = true) : dotS (nI S) p * dI S < sqS (nI S) := by
  refine Classical.byContradiction fun hc => ?_
  have := ((nrSum_same (nI S) (dI S)).past (p := p) (by omega) (by have := nrSum_pos (N := nI S) hd; omega)).1 (by omega)
  simp only [pastB, decide_eq_true_eq] at h
  have e : nrOf S = nrSum (nI S) (dI S) := rfl
  rw [e] at h
  omega
theorem ahead_of {ps S : List Pt} {k : Int} (hd : 1 ≤ dI S) (hk : LeastAt (nrOf S).n ps k) (h : pastB (nrOf S).n (nrOf S).d (ptI ps k) = false) : Ahead ps (nI S) (dI S) := by
  refine (past_iff hd).1 fun p hp => ?_
  have h1 := hk.2.2 p hp
  have h2 : 1 ≤ (nrOf S).d := nrSum_pos hd
  have h3 := Int.mul_le_mul_of_nonneg_right h1 (show 0 ≤ (nrOf S).d by omega)
  simp only [pastB, decide_eq_false_iff_not] at h ⊢
  have e : nrOf S = nrSum (nI S) (dI S) := rfl
  rw [e] at h3 h
  omega
/-- Where a walk over points may end. -/
def Ends (ps : List Pt) (own : List Int) : Prop := Own ps own ∧ Ahead ps (nI (sel ps own)) (dI (sel ps own))
/-- What walk hands back. -/
def WK (ps : List Pt) (v : Value) (Ln : HL) : Prop := ∃ own g cur cap, ∃ steps : Int, Ends ps own ∧ 1 ≤ steps ∧ steps ≤ mostI ps.length ∧
  v = .tuple #[.agg (Nr.l ⟨(nrOf (sel ps own)).n, (nrOf (sel ps own)).d, .slice (some ⟨g, 0, none⟩) own.length cap⟩).toArray, .int .i64 steps] ∧ Ln = [(63, (g, .cells cur.toArray 3 (0, 0)))] ∧ SV.ok 1 (some (g, cur, cap)) (own.map intC)
theorem ret_st {P : Program} {w0 : World} {N : Nat} {T : TL} {L Ln : HL} {fn : Func} {R : Value → HL → Prop} {rs : List ResultVar} {vs : List Value} {v : Value} (hr : fn.results.toList = rs) (h : RVs P T L rs vs) (hv : tup vs = v) (hR : R v Ln) (hl : ∀ w, St w0 [] w L → St w0 [] w Ln) :
    At w0 [] N D0 (bodyPost P fn fun e w' => ∃ v Ln, e = .returned v ∧ R v Ln ∧ St w0 [] w' Ln) .ret T L :=
  at_ret hr h fun w hw => ⟨v, Ln, by rw [hv], hR, hl w hw⟩
/-- What back hands back. -/
def BK (n : Sp) (ps : List Pt) (v : Value) (Ln : HL) : Prop := ∃ k, v = .int .i64 k ∧ LeastAt n ps k ∧ Ln = []
theorem gjk_backS {ps : List Pt} {w : World} {bl : Nat} {v : Value} {m : Nr} (h : WB w bl v ps) (hok : okPts ps) (h1 : 1 ≤ ps.length) (h256 : ps.length ≤ 256) (hn : m.n.In Mid) :
    Calls Tryz.prog 56 #[.agg m.l.toArray, .pointer (some ⟨bl, 0, none⟩)] w fun e w' => ∃ v Ln, e = .returned v ∧ BK m.n ps v Ln ∧ St w [] w' Ln :=
  (gjk_back h hok h1 h256 hn).mono fun _ _ ⟨k, e1, e2, e3⟩ => ⟨_, [], e1, ⟨k, rfl, e2, rfl⟩, (St.start w).grow e3⟩
theorem take_more {α β : Type} {l : List α} {f : α → β} {j : Nat} {x : α} (h : l[j]? = some x) : (l.take (j + 1)).map f = (l.take j).map f ++ [f x] := by rw [List.take_add_one, h, List.map_append]; rfl

set_option maxHeartbeats 8000000 in
theorem gjk_walk {ps : List Pt} {v : Value} (w : World) (hv : PtsAt w v ps) (hok : okPts ps) (h1 : 1 ≤ ps.length) (h256 : ps.length ≤ 256) :
    Calls Tryz.prog 39 #[v] w fun e w' => ∃ v Ln, e = .returned v ∧ WK ps v Ln ∧ St w [] w' Ln := by
  have hv0 := hv
  obtain ⟨a, c0, rfl, hs⟩ := hv
  rw [List.length_map] at hv0 ⊢
  have p0 := ptI_get (ps := ps) (Int.le_refl 0) (by omega)
  have p0l : (ps.map Pt.l)[(0 : Int).toNat]? = some (ptI ps 0).l := by rw [List.getElem?_map, p0]; rfl
  obtain ⟨bl, off, l0, fz, rfl, hb, hpt⟩ := hs.resolve_left (by intro h; rw [h] at p0l; simp at p0l)
  have hmost : mostI ps.length ≤ 8589934592 := by have := cn_bounds ps.length h256; unfold mostI; omega
  refine calls_of Tryz.func39 rfl Tryz.ntmps39 rfl (St.start w) (args := [.slice (some ⟨bl, off, none⟩) ps.length c0]) ?_
  refine cw_sr ?_
  refine steps_s (s_box1 1 rfl rfl rfl fun b1 => ?_)  -- gjk.go:40
  refine steps_s (s_allocA 2 rfl zer36 fun b2 => ?_)  -- gjk.go:40
  refine steps_q rfl (q_assign rfl) ?_  -- gjk.go:40
  refine steps_nil ?_
  refine cw_sr ?_
  refine steps_q rfl (q_func rfl rfl) ?_  -- gjk.go:41
  refine steps_q rfl (q_assign rfl) ?_  -- gjk.go:41
  refine steps_nil ?_
  refine cw_sr ?_
  refine steps_s (s_buildSl 65 rfl rfl rfl (bslI 0) fun b16 => ?_)  -- gjk.go:50
  refine steps_q rfl (q_assign rfl) ?_  -- gjk.go:50
  refine steps_nil ?_
  refine cw_block ?_
  -- LOOP 1 writes [3, 5, 6, 8, 9, 11, 13, 14, 17, 18, 19, 20, 21, 22, 23, 24, 25, 26, 27, 28, 29, 30, 31, 32, 33, 34, 35, 36, 37, 38, 39, 40, 41, 42, 43, 44, 45, 46, 47, 48, 49, 50, 51, 52, 53, 54, 55, 56, 57, 58, 59, 60, 61, 62, 63, 64, 65, 66, 67, 68, 69, 70, 71, 72, 73, 74, 75, 76, 77, 78, 79]  stores via [2, 9, 61]  reads [1, 2, 4]
  refine cw_loop (S := List Int × List (List Int) × Nat × List Value × Nat) (fun s => [(1, .pointer (some ⟨b1, 0, none⟩)), (2, .pointer (some ⟨b2, 0, none⟩)), (3, .int .i64 s.2.1.length), (4, .func (.func 56) #[] #[.pointer (some ⟨b1, 0, none⟩)]), (5, .slice (some ⟨s.2.2.1, 0, none⟩) s.1.length s.2.2.2.2)]) (fun s => [(1, (b1, .cells [.slice (some ⟨bl, off, none⟩) ps.length c0].toArray 22 (0, 0))), (2, (b2, .cells (Nr.l nrZ).toArray 36 (0, 0))), (65, (s.2.2.1, .cells s.2.2.2.1.toArray 3 (0, 0)))]) (fun s => WI ps s.1 s.2.1 ∧ SV.ok 1 (some s.2.2) (s.1.map intC)) (fun s => (mostI ps.length).toNat - s.2.1.length) ([0], [], b16, intC 0, 1) ⟨WI.begin h1, rfl, Nat.le_refl _, by unfold maxLen; omega, rfl, fun y hy => by simp at hy; subst hy; rfl⟩ (subs ⟨rfl, rfl, rfl, rfl, rfl, trivial⟩) (subs ⟨rfl, rfl, rfl, trivial⟩) ?_
  rintro ⟨at_, seen, ga, cura, capa⟩ ⟨hWI, hsva⟩
  dsimp only at hWI hsva
  conv => enter [7]; dsimp only
  conv => enter [8]; dsimp only
  have ha1 := hWI.one
  have ha4 := hWI.four
  have hasl := sel_len ps at_
  have hsok := sel_ok hok hWI.in'
  have hseen := seen_le hWI.nd hWI.own
  refine cw_block ?_
  refine cw_sr ?_
  refine steps_q rfl (q_assign rfl) ?_  -- gjk.go:52
  refine steps_nil ?_
  refine cw_seq ?_
  refine cw_sr ?_
  refine steps_q rfl (q_move rfl) ?_  -- gjk.go:53
  refine steps_q rfl (q_lenSl Tryz.underlying34 rfl) ?_  -- gjk.go:53
  refine steps_q rfl (q_move rfl) ?_  -- gjk.go:53
  refine steps_nil ?_
  refine cw_block ?_
  -- LOOP 2 writes [6, 8, 19, 20, 21, 22, 23, 24, 25, 26, 27, 28, 29, 30]  stores via []  reads [1, 17, 18]
  refine cw_loop (S := Nat × SV) (fun s => [(1, .pointer (some ⟨b1, 0, none⟩)), (2, .pointer (some ⟨b2, 0, none⟩)), (3, .int .i64 seen.length), (4, .func (.func 56) #[] #[.pointer (some ⟨b1, 0, none⟩)]), (5, .slice (some ⟨ga, 0, none⟩) at_.length capa), (6, s.2.v s.1), (17, .slice (some ⟨ga, 0, none⟩) at_.length capa), (18, .int .i64 at_.length), (19, .int .i64 s.1)]) (fun s => ([(1, (b1, .cells [.slice (some ⟨bl, off, none⟩) ps.length c0].toArray 22 (0, 0))), (2, (b2, .cells (Nr.l nrZ).toArray 36 (0, 0))), (65, (ga, .cells cura.toArray 3 (0, 0)))] : HL) ++ s.2.l 61 47) (fun s => s.1 ≤ at_.length ∧ s.2.ok 3 (((sel ps at_).take s.1).map Pt.l)) (fun s => at_.length - s.1) (0, none) ⟨by dsimp only; omega, by simp [SV.ok]⟩ (subs ⟨rfl, rfl, rfl, rfl, rfl, rfl, rfl, rfl, rfl, trivial⟩) (subs ⟨rfl, rfl, rfl, trivial⟩) ?_
  rintro ⟨k, sv⟩ ⟨k1, hsk⟩
  dsimp only at k1 hsk
  conv => enter [7]; dsimp only
  conv => enter [8]; dsimp only
  have hkl : (((sel ps at_).take k).map Pt.l).length = k := by rw [List.length_map, List.length_take, hasl]; omega
  refine cw_sr ?_
  refine steps_q rfl (q_bin rfl rfl rfl) ?_  -- gjk.go:53
  refine steps_nil ?_
  refine cw_seq ?_
  refine cw_cond _ rfl (fun hc1 => ?_) (fun hc1 => ?_)
  · -- yes 1
    have hk : (k : Int) < (at_.length : Int) := of_decide_eq_true hc1
    obtain ⟨m, hm⟩ : ∃ m, at_[k]? = some m := ⟨at_[k]'(by omega), List.getElem?_eq_getElem (by omega)⟩
    have hml : (at_.map intC)[(k : Int).toNat]? = some (intC m) := by rw [Int.toNat_natCast, List.getElem?_map, hm]; rfl
    have hmb := hWI.in' m (List.mem_of_getElem? hm)
    have pm := ptI_get (ps := ps) hmb.1 hmb.2
    have pml : (ps.map Pt.l)[m.toNat]? = some (ptI ps m).l := by rw [List.getElem?_map, pm]; rfl
    have hsm : (sel ps at_)[k]? = some (ptI ps m) := by rw [sel, List.getElem?_map, hm]; rfl
    have htk := take_more (f := Pt.l) hsm
    refine cw_skip ?_
    refine at_then ?_
    refine cw_seq ?_
    refine cw_block ?_
    refine cw_sr ?_
    refine steps_q rfl (q_indexSl slc34 rfl rfl (by omega) (by omega)) ?_  -- gjk.go:53
    refine steps_q rfl (q_load1 65 one3 rfl rfl (part1 (SV.part hsva hml))) ?_  -- gjk.go:53
    refine steps_q rfl (q_assign rfl) ?_  -- gjk.go:53
    refine steps_nil ?_
    rcases sv with _ | ⟨g1, cur1, cap1⟩
    · -- way 7.a
      refine cw_region ?_
      refine steps_q rfl (q_move rfl) ?_  -- gjk.go:54
      refine steps_q rfl (q_load1 1 one22 rfl rfl rfl) ?_  -- gjk.go:54
      refine steps_q rfl (q_move rfl) ?_  -- gjk.go:54
      refine steps_q rfl (q_indexSl slc22 rfl rfl hmb.1 (by omega)) ?_  -- gjk.go:54
      refine steps_q rfl (q_loadAo agg47 rfl hb (by simp) (hpt _ _ pml)) ?_  -- gjk.go:54
      refine steps_s (s_buildSl 28 rfl rfl rfl (bslP (ptI ps m)) fun b28 => ?_)  -- gjk.go:54
      refine steps_s (s_appendN 61 28 none k (((sel ps at_).take k).map Pt.l) (ptI ps m).l hkl elt22 rfl rfl hsk (subs trivial) rfl rfl rfl rfl (by omega) (by unfold maxLen; omega) fun g1 cur1 cap1 hk1 => ?_)  -- gjk.go:54
      refine steps_q rfl (q_assign rfl) ?_  -- gjk.go:54
      refine steps_nil ?_
      refine at_then ?_
      refine cw_region ?_
      refine steps_q rfl (q_bin rfl rfl (add64 (by omega) (by omega))) ?_  -- gjk.go:53
      refine steps_q rfl (q_move rfl) ?_  -- gjk.go:53
      refine steps_nil ?_
      exact at_round (k + 1, some (g1, cur1, cap1)) ⟨by dsimp only; omega, by dsimp only; rw [htk]; exact hk1⟩ (by dsimp only; omega) (subs ⟨rfl, rfl, rfl, rfl, rfl, rfl, rfl, rfl, by dsimp only; rw [show ((k + 1 : Nat) : Int) = k + 1 by omega]; rfl, trivial⟩) (subs ⟨rfl, rfl, rfl, rfl, trivial⟩)
    · -- way 7.b
      refine cw_region ?_
      refine steps_q rfl (q_move rfl) ?_  -- gjk.go:54
      refine steps_q rfl (q_load1 1 one22 rfl rfl rfl) ?_  -- gjk.go:54
      refine steps_q rfl (q_move rfl) ?_  -- gjk.go:54
      refine steps_q rfl (q_indexSl slc22 rfl rfl hmb.1 (by omega)) ?_  -- gjk.go:54
      refine steps_q rfl (q_loadAo agg47 rfl hb (by simp) (hpt _ _ pml)) ?_  -- gjk.go:54
      refine steps_s (s_buildSl 28 rfl rfl rfl (bslP (ptI ps m)) fun b28 => ?_)  -- gjk.go:54
      refine steps_s (s_appendN 61 28 (some (g1, cur1, cap1)) k (((sel ps at_).take k).map Pt.l) (ptI ps m).l hkl elt22 rfl rfl hsk (subs ⟨rfl, trivial⟩) rfl rfl rfl rfl (by omega) (by unfold maxLen; omega) fun g1 cur1 cap1 hk1 => ?_)  -- gjk.go:54
      refine steps_q rfl (q_assign rfl) ?_  -- gjk.go:54
      refine steps_nil ?_
      refine at_then ?_
      refine cw_region ?_
      refine steps_q rfl (q_bin rfl rfl (add64 (by omega) (by omega))) ?_  -- gjk.go:53
      refine steps_q rfl (q_move rfl) ?_  -- gjk.go:53
      refine steps_nil ?_
      exact at_round (k + 1, some (g1, cur1, cap1)) ⟨by dsimp only; omega, by dsimp only; rw [htk]; exact hk1⟩ (by dsimp only; omega) (subs ⟨rfl, rfl, rfl, rfl, rfl, rfl, rfl, rfl, by dsimp only; rw [show ((k + 1 : Nat) : Int) = k + 1 by omega]; rfl, trivial⟩) (subs ⟨rfl, rfl, rfl, rfl, trivial⟩)
  · -- no 1
    have hk : ¬ (k : Int) < (at_.length : Int) := of_decide_eq_false hc1
    have hkc : k = at_.length := by omega
    subst hkc
    rw [List.take_of_length_le (by omega)] at hsk hkl
    rcases sv with _ | ⟨g1, cur1, cap1⟩
    · exfalso
      have := SV.len0 hsk
      omega
    refine cw_exit ?_
    refine at_then ?_
    refine cw_sr ?_
    refine steps_q rfl (q_move rfl) ?_  -- gjk.go:56
    refine steps_s (s_callSt ent28 rfl rfl rfl (R := NR (sel ps at_)) (fun w' hw => by have h0 : PtsAt w' (.slice (some ⟨g1, 0, none⟩) at_.length cap1) (sel ps at_) := (by have := SlAt.own (q := some (g1, cur1, cap1)) (i := 61) (e := 47) hw (subs ⟨rfl, trivial⟩) hsk; rwa [hkl] at this); simpa using simplex_Near_ok w' h0 hsok (by omega) (by omega)) fun v Ln hZ => ?_)  -- gjk.go:56
    obtain ⟨c, gN, curN, capN, hc, ht, rfl, rfl, hsvN⟩ := hZ
    obtain ⟨hO, esel, hnd, hlt⟩ := hWI.step hc ht
    obtain ⟨cc1, cc4, cck, -⟩ := choice_len (n4 (by omega) (by omega)) hc
    rw [hasl] at cck
    rw [esel]
    obtain ⟨own, hown⟩ : ∃ own, own = pickI at_ c := ⟨_, rfl⟩
    rw [← hown] at hO esel hnd hlt ⊢
    have hol : own.length = c.length := by rw [hown, pickI, List.length_map]
    have hcount := seen_le hnd (fun o ho => by rcases List.mem_cons.1 ho with rfl | h; exact hO; exact hWI.own o h)
    rw [List.length_cons] at hcount
    have hdp := hO.good.dpos
    have hnb := nrOf_bd (sel_ok hok hO.at') hO.good.ne hO.good.le (by omega)
    refine steps_q rfl (q_move rfl) ?_  -- gjk.go:56
    refine steps_q rfl (q_extract rfl rfl) ?_  -- gjk.go:56
    refine steps_q rfl (q_extract rfl rfl) ?_  -- gjk.go:56
    refine steps_s (s_allocA 9 rfl zer36 fun b9 => ?_)  -- gjk.go:56
    refine steps_s (s_storeW 9 siz36 rfl rfl rfl rfl rfl rfl ?_)  -- gjk.go:56
    refine steps_q rfl (q_assign rfl) ?_  -- gjk.go:56
    refine steps_nil ?_
    refine cw_sr ?_
    refine steps_q rfl (q_assign rfl) ?_  -- gjk.go:57
    refine steps_nil ?_
    refine cw_seq ?_
    refine cw_sr ?_
    refine steps_q rfl (q_field fld36_2 rfl) ?_  -- gjk.go:58
    refine steps_q rfl (q_load1 9 one34 rfl rfl rfl) ?_  -- gjk.go:58
    refine steps_q rfl (q_lenSl Tryz.underlying34 rfl) ?_  -- gjk.go:58
    refine steps_q rfl (q_move rfl) ?_  -- gjk.go:58
    refine steps_nil ?_
    refine cw_block ?_
    -- LOOP 3 writes [11, 13, 39, 40, 41, 42, 43, 44, 45, 46, 47, 48, 49, 50]  stores via []  reads [5, 37, 38]
    refine cw_loop (S := Nat × SV) (fun s => [(1, .pointer (some ⟨b1, 0, none⟩)), (2, .pointer (some ⟨b2, 0, none⟩)), (3, .int .i64 seen.length), (4, .func (.func 56) #[] #[.pointer (some ⟨b1, 0, none⟩)]), (5, .slice (some ⟨ga, 0, none⟩) at_.length capa), (9, .pointer (some ⟨b9, 0, none⟩)), (11, s.2.v s.1), (37, .slice (some ⟨gN, 0, none⟩) c.length capN), (38, .int .i64 c.length), (39, .int .i64 s.1)]) (fun s => ([(1, (b1, .cells [.slice (some ⟨bl, off, none⟩) ps.length c0].toArray 22 (0, 0))), (2, (b2, .cells (Nr.l nrZ).toArray 36 (0, 0))), (65, (ga, .cells cura.toArray 3 (0, 0))), (63, (gN, .cells curN.toArray 3 (0, 0))), (9, (b9, .cells (Nr.l ⟨(nrOf (sel ps own)).n, (nrOf (sel ps own)).d, .slice (some ⟨gN, 0, none⟩) c.length capN⟩).toArray 36 (0, 0)))] : HL) ++ s.2.l 64 3) (fun s => s.1 ≤ c.length ∧ s.2.ok 1 ((own.take s.1).map intC)) (fun s => c.length - s.1) (0, none) ⟨by dsimp only; omega, by simp [SV.ok]⟩ (subs ⟨rfl, rfl, rfl, rfl, rfl, rfl, rfl, rfl, rfl, rfl, trivial⟩) (subs ⟨rfl, rfl, rfl, rfl, rfl, trivial⟩) ?_
    rintro ⟨k, sv⟩ ⟨k1, hsk2⟩
    dsimp only at k1 hsk2
    conv => enter [7]; dsimp only
    conv => enter [8]; dsimp only
    have hkl2 : ((own.take k).map intC).length = k := by rw [List.length_map, List.length_take, hol]; omega
    refine cw_sr ?_
    refine steps_q rfl (q_bin rfl rfl rfl) ?_  -- gjk.go:58
    refine steps_nil ?_
    refine cw_seq ?_
    refine cw_cond _ rfl (fun hc2 => ?_) (fun hc2 => ?_)
    · -- yes 2
      have hk : (k : Int) < (c.length : Int) := of_decide_eq_true hc2
      obtain ⟨m, hm⟩ : ∃ m, c[k]? = some m := ⟨c[k]'(by omega), List.getElem?_eq_getElem (by omega)⟩
      have hml : (c.map intC)[(k : Int).toNat]? = some (intC m) := by rw [Int.toNat_natCast, List.getElem?_map, hm]; rfl
      have hmb := cck m (List.mem_of_getElem? hm)
      obtain ⟨q, hq⟩ : ∃ q, at_[m.toNat]? = some q := ⟨at_[m.toNat]'(by omega), List.getElem?_eq_getElem (by omega)⟩
      have hql : (at_.map intC)[m.toNat]? = some (intC q) := by rw [List.getElem?_map, hq]; rfl
      have hoq : own[k]? = some q := by rw [hown, pickI, List.getElem?_map, hm]; simp [List.getD_eq_getElem?_getD, hq]
      have htk := take_more (f := intC) hoq
      refine cw_skip ?_
      refine at_then ?_
      refine cw_seq ?_
      refine cw_block ?_
      refine cw_sr ?_
      refine steps_q rfl (q_indexSl slc34 rfl rfl (by omega) (by omega)) ?_  -- gjk.go:58
      refine steps_q rfl (q_load1 63 one3 rfl rfl (part1 (SV.part hsvN hml))) ?_  -- gjk.go:58
      refine steps_q rfl (q_assign rfl) ?_  -- gjk.go:58
      refine steps_nil ?_
      rcases sv with _ | ⟨g2, cur2, cap2⟩
      · -- way 14.a
        refine cw_region ?_
        refine steps_q rfl (q_move rfl) ?_  -- gjk.go:59
        refine steps_q rfl (q_move rfl) ?_  -- gjk.go:59
        refine steps_q rfl (q_move rfl) ?_  -- gjk.go:59
        refine steps_q rfl (q_indexSl slc34 rfl rfl hmb.1 (by omega)) ?_  -- gjk.go:59
        refine steps_q rfl (q_load1 65 one3 rfl rfl (part1 (SV.part hsva hql))) ?_  -- gjk.go:59
        refine steps_s (s_buildSl 48 rfl rfl rfl (bslI q) fun b48 => ?_)  -- gjk.go:59
        refine steps_s (s_appendN 64 48 none k ((own.take k).map intC) (intC q) hkl2 elt34 rfl rfl hsk2 (subs trivial) rfl rfl rfl rfl (by omega) (by unfold maxLen; omega) fun g2 cur2 cap2 hk2 => ?_)  -- gjk.go:59
        refine steps_q rfl (q_assign rfl) ?_  -- gjk.go:59
        refine steps_nil ?_
        refine at_then ?_
        refine cw_region ?_
        refine steps_q rfl (q_bin rfl rfl (add64 (by omega) (by omega))) ?_  -- gjk.go:58
        refine steps_q rfl (q_move rfl) ?_  -- gjk.go:58
        refine steps_nil ?_
        exact at_round (k + 1, some (g2, cur2, cap2)) ⟨by dsimp only; omega, by dsimp only; rw [htk]; exact hk2⟩ (by dsimp only; omega) (subs ⟨rfl, rfl, rfl, rfl, rfl, rfl, rfl, rfl, rfl, by dsimp only; rw [show ((k + 1 : Nat) : Int) = k + 1 by omega]; rfl, trivial⟩) (subs ⟨rfl, rfl, rfl, rfl, rfl, rfl, trivial⟩)
      · -- way 14.b
        refine cw_region ?_
        refine steps_q rfl (q_move rfl) ?_  -- gjk.go:59
        refine steps_q rfl (q_move rfl) ?_  -- gjk.go:59
        refine steps_q rfl (q_move rfl) ?_  -- gjk.go:59
        refine steps_q rfl (q_indexSl slc34 rfl rfl hmb.1 (by omega)) ?_  -- gjk.go:59
        refine steps_q rfl (q_load1 65 one3 rfl rfl (part1 (SV.part hsva hql))) ?_  -- gjk.go:59
        refine steps_s (s_buildSl 48 rfl rfl rfl (bslI q) fun b48 => ?_)  -- gjk.go:59
        refine steps_s (s_appendN 64 48 (some (g2, cur2, cap2)) k ((own.take k).map intC) (intC q) hkl2 elt34 rfl rfl hsk2 (subs ⟨rfl, trivial⟩) rfl rfl rfl rfl (by omega) (by unfold maxLen; omega) fun g2 cur2 cap2 hk2 => ?_)  -- gjk.go:59
        refine steps_q rfl (q_assign rfl) ?_  -- gjk.go:59
        refine steps_nil ?_
        refine at_then ?_
        refine cw_region ?_
        refine steps_q rfl (q_bin rfl rfl (add64 (by omega) (by omega))) ?_  -- gjk.go:58
        refine steps_q rfl (q_move rfl) ?_  -- gjk.go:58
        refine steps_nil ?_
        exact at_round (k + 1, some (g2, cur2, cap2)) ⟨by dsimp only; omega, by dsimp only; rw [htk]; exact hk2⟩ (by dsimp only; omega) (subs ⟨rfl, rfl, rfl, rfl, rfl, rfl, rfl, rfl, rfl, by dsimp only; rw [show ((k + 1 : Nat) : Int) = k + 1 by omega]; rfl, trivial⟩) (subs ⟨rfl, rfl, rfl, rfl, rfl, rfl, trivial⟩)
    · -- no 2
      have hk : ¬ (k : Int) < (c.length : Int) := of_decide_eq_false hc2
      have hkc : k = c.length := by omega
      subst hkc
      rw [List.take_of_length_le (by omega)] at hsk2 hkl2
      rcases sv with _ | ⟨g2, cur2, cap2⟩
      · exfalso
        have := SV.len0 hsk2
        omega
      rw [← hol]
      refine cw_exit ?_
      refine at_then ?_
      refine cw_seq ?_
      refine cw_sr ?_
      refine steps_q rfl (q_move rfl) ?_  -- gjk.go:61
      refine steps_q rfl (q_bin rfl rfl (add64 (by omega) (by omega))) ?_  -- gjk.go:61
      refine steps_q rfl (q_assign rfl) ?_  -- gjk.go:61
      refine steps_nil ?_
      refine cw_sr ?_
      refine steps_q rfl (q_move rfl) ?_  -- gjk.go:61
      refine steps_q rfl (q_load1 1 one22 rfl rfl rfl) ?_  -- gjk.go:61
      refine steps_q rfl (q_lenSl Tryz.underlying22 rfl) ?_  -- gjk.go:61
      refine steps_q rfl (q_pure ent59 rfl (gjk_most h256)) ?_  -- gjk.go:61
      refine steps_q rfl (q_bin rfl rfl (gtr_f (by omega))) ?_  -- gjk.go:61
      refine steps_nil ?_
      refine cw_cond _ rfl (fun hc3 => ?_) (fun hc3 => ?_)
      · cases hc3
      · -- no 3
        refine cw_skip ?_
        refine at_then ?_
        refine cw_sr ?_
        refine steps_q rfl (q_move rfl) ?_  -- gjk.go:64
        refine steps_q rfl (q_field fld36_2 rfl) ?_  -- gjk.go:64
        refine steps_s (s_store1 9 siz34 rfl rfl rfl rfl rfl (show 33 ≤ 33 from Nat.le_refl _) (l' := Nr.l ⟨(nrOf (sel ps own)).n, (nrOf (sel ps own)).d, .slice (some ⟨g2, 0, none⟩) own.length cap2⟩) rfl ?_)  -- gjk.go:64
        refine steps_nil ?_
        refine cw_sr ?_
        refine steps_q rfl (q_move rfl) ?_  -- gjk.go:65
        refine steps_q rfl (q_loadW 9 agg36 rfl rfl rfl) ?_  -- gjk.go:65
        refine steps_s (s_callSt ent56 rfl rfl rfl (R := BK (nrOf (sel ps own)).n ps) (fun w' hw => by simpa using gjk_backS (m := ⟨(nrOf (sel ps own)).n, (nrOf (sel ps own)).d, .slice (some ⟨g2, 0, none⟩) own.length cap2⟩) (ps := ps) (bl := b1) (v := .slice (some ⟨bl, off, none⟩) ps.length c0) (w := w') ⟨(hw.known 1 _ _ rfl).1, SlAt.st hv0 hw⟩ hok h1 h256 hnb.1) fun v Ln hZ => ?_)  -- gjk.go:65
        obtain ⟨kk, rfl, hkk, rfl⟩ := hZ
        have pk := ptI_get (ps := ps) hkk.1 hkk.2.1
        have pkl : (ps.map Pt.l)[kk.toNat]? = some (ptI ps kk).l := by rw [List.getElem?_map, pk]; rfl
        have hpkin := (ptI_in hok hkk.1 hkk.2.1).mono (show (268435456 : Int) ≤ P40 by decide)
        refine steps_q rfl (q_assign rfl) ?_  -- gjk.go:65
        refine steps_nil ?_
        refine cw_seq ?_
        refine cw_sd mixed [0, 1, 2, 3, 4, 5, 6] 0 _ (by kernel_rfl) (SubL.refl _) ?_
        refine qi_q rfl rfl (q_loadW 9 agg36 rfl rfl rfl) ?_  -- gjk.go:66
        refine qi_q rfl rfl (q_load1 1 one22 rfl rfl rfl) ?_  -- gjk.go:66
        refine qi_q rfl rfl (q_move rfl) ?_  -- gjk.go:66
        refine qi_q rfl rfl (q_indexSl slc22 rfl rfl hkk.1 hkk.2.1) ?_  -- gjk.go:66
        refine qi_q rfl rfl (q_loadAo agg47 rfl hb (by simp) (hpt _ _ pkl)) ?_  -- gjk.go:66
        refine qi_q rfl rfl (q_pure ent60 rfl (simplex_Past (m := ⟨(nrOf (sel ps own)).n, (nrOf (sel ps own)).d, .slice (some ⟨g2, 0, none⟩) own.length cap2⟩) hnb.1 (by have := hnb.2; dsimp only; omega) hpkin)) ?_  -- gjk.go:66
        refine qi_q rfl rfl (q_not rfl rfl) ?_  -- gjk.go:66
        refine qi_nil ?_
        refine tail_nil (by kernel_rfl) ?_
        refine cw_cond _ rfl (fun hc4 => ?_) (fun hc4 => ?_)
        · -- yes 4
          have hpast : pastB (nrOf (sel ps own)).n (nrOf (sel ps own)).d (ptI ps kk) = false := by simpa using hc4
          refine cw_sr ?_
          refine steps_q rfl (q_loadW 9 agg36 rfl rfl rfl) ?_  -- gjk.go:67
          refine steps_q rfl (q_move rfl) ?_  -- gjk.go:67
          refine steps_s (s_storeW 2 siz36 rfl rfl rfl rfl rfl rfl ?_)  -- gjk.go:67
          refine steps_q rfl (q_assign rfl) ?_  -- gjk.go:67
          refine steps_nil ?_
          refine cw_ret ?_
          exact ret_st rfl (rv_agg 2 agg36 rfl rfl rfl (rv_tmp rfl rv_nil)) rfl ⟨own, g2, cur2, cap2, _, ⟨hO, ahead_of (by omega) hkk hpast⟩, by omega, hcount, rfl, rfl, hsk2⟩ fun w' hw => hw.only (j := 64) rfl
        · -- no 4
          have hpast : pastB (nrOf (sel ps own)).n (nrOf (sel ps own)).d (ptI ps kk) = true := by simpa using hc4
          have hpu := past_of (by omega) hpast
          have ho3 := three_of_past hO.good hpu
          rw [sel_len] at ho3
          have ho1 := hO.len.1
          have hoi : (own.map intC).length = own.length := List.length_map _
          refine cw_skip ?_
          refine at_then ?_
          refine cw_sr ?_
          refine steps_q rfl (q_move rfl) ?_  -- gjk.go:69
          refine steps_s (s_callSt ent61 rfl rfl rfl (R := CL own) (fun w' hw => by have h0 : SlAt w' 3 1 (.slice (some ⟨g2, 0, none⟩) own.length cap2) (own.map intC) := (by have := SlAt.own (q := some (g2, cur2, cap2)) (i := 64) (e := 3) hw (subs ⟨rfl, trivial⟩) hsk2; rwa [hoi] at this); simpa using clone_ints w' h0 (by omega) (by omega)) fun v Ln hZ => ?_)  -- gjk.go:69
          obtain ⟨g3, cur3, cap3, rfl, rfl, hsv3⟩ := hZ
          refine steps_q rfl (q_move rfl) ?_  -- gjk.go:69
          refine steps_s (s_buildSl 77 rfl rfl rfl (bslI kk) fun b77 => ?_)  -- gjk.go:69
          refine steps_s (s_appendN 65 77 (some (g3, cur3, cap3)) own.length (own.map intC) (intC kk) hoi elt34 rfl rfl hsv3 (subs ⟨rfl, trivial⟩) rfl rfl rfl rfl (by omega) (by unfold maxLen; omega) fun g4 cur4 cap4 hk4 => ?_)  -- gjk.go:69
          refine steps_q rfl (q_assign rfl) ?_  -- gjk.go:69
          refine steps_nil ?_
          refine cw_region ?_
          refine steps_q rfl (q_move rfl) ?_  -- gjk.go:70
          have hk4' : SV.ok 1 (some (g4, cur4, cap4)) ((own ++ [kk]).map intC) := by rw [List.map_append]; exact hk4
          obtain ⟨rest, rfl, hcap, hmax⟩ := sv_vI hk4'
          refine steps_s (s_callUpdE (k := 1) 65 ent62 rfl rfl rfl rfl (R := SortedO (own ++ [kk]) rest) (fun w' hw => by simpa using sort_ints (ys := own ++ [kk]) (cap := cap4) (by simp; omega) w' hw) fun o' hR => ?_)  -- gjk.go:70
          refine steps_nil ?_
          obtain ⟨zs, rfl, hperm, hsorted⟩ := hR
          have hzl := hperm.length_eq
          rw [List.length_append, List.length_singleton] at hzl hcap
          exact at_round (Q := fun _ _ _ => True) (zs, own :: seen, g4, vI zs ++ rest, cap4) ⟨hWI.next hO hnd hlt ⟨hkk.1, hkk.2.1⟩ hpu hperm hsorted, vI_sv (by omega) hmax⟩ (by dsimp only; rw [List.length_cons]; omega) (subs ⟨rfl, rfl, by dsimp only; rw [List.length_cons, show ((seen.length + 1 : Nat) : Int) = seen.length + 1 by omega]; rfl, rfl, by dsimp only; rw [hzl]; rfl, trivial⟩) (subs ⟨rfl, rfl, rfl, trivial⟩)
end Go.Proofs.YtomdahjakkifbaaGreat

/-
  The walks of package gjk: found, Near, Steps.
-/
namespace Go.Proofs.YtomdahjakkifbaaGreat
open Go Go.NP Go.RowKit Go.Proofs
set_option maxRecDepth 100000

theorem found_idle (p q r : Value) : Idle Tryz.prog 38 #[p, q, r] :=
  idle_of (n := 3) Tryz.func38 Tryz.underlying20 rfl rfl (by decide) (by simp [Tryz.ntmps38])
theorem retD_st {P : Program} {w0 : World} {N : Nat} {T : TL} {L Ln : HL} {fn : Func} {R : Value → HL → Prop} {rs : List ResultVar} {vs : List Value} {v : Value} {f : FuncId} {cs : Array Value} (hr : fn.results.toList = rs) (h : RVs P T L rs vs) (he : Ent P f) (hi : Idle P f cs) (hv : tup vs = v) (hR : R v Ln) (hl : ∀ w, St w0 [] w L → St w0 [] w Ln) :
    At w0 [] N ⟨[{ target := .fn (.func f) cs, args := #[] }], none⟩ (bodyPostD P fn fun e w' => ∃ v Ln, e = .returned v ∧ R v Ln ∧ St w0 [] w' Ln) .ret T L :=
  at_retD hr h he hi fun w hw => ⟨v, Ln, by rw [hv], hR, hl w hw⟩
/-- What found hands back. -/
def FK (ps : List Pt) (v : Value) (Ln : HL) : Prop := ∃ own g cur cap, ∃ steps : Int, Ends ps own ∧ 1 ≤ steps ∧ steps ≤ mostI ps.length ∧
  v = .tuple #[.agg (Nr.l ⟨(nrOf (sel ps own)).n, (nrOf (sel ps own)).d, .slice (some ⟨g, 0, none⟩) own.length cap⟩).toArray, .int .i64 steps, .int .i64 0] ∧ Ln = [(63, (g, .cells cur.toArray 3 (0, 0)))] ∧ SV.ok 1 (some (g, cur, cap)) (own.map intC)
theorem gjk_found_ok {ps : List Pt} {v : Value} (w : World) (hv : PtsAt w v ps) (he : errG ps = 0) :
    Calls Tryz.prog 27 #[v] w fun e w' => ∃ v Ln, e = .returned v ∧ FK ps v Ln ∧ St w [] w' Ln := by
  have hv0 := hv
  obtain ⟨hok, h1, h256⟩ := errG_ok.1 he
  obtain ⟨a, c0, rfl, hs⟩ := hv
  rw [List.length_map] at hv0 ⊢
  refine calls_ofD Tryz.func27 rfl Tryz.ntmps27 rfl (St.start w) (args := [.slice a ps.length c0]) ?_
  refine cw_sr ?_
  refine steps_s (s_allocA 2 rfl zer36 fun b2 => ?_)  -- gjk.go:75
  refine steps_s (s_alloc1 3 rfl zer3 rfl fun b3 => ?_)  -- gjk.go:75
  refine steps_s (s_alloc1 4 rfl zer24 rfl fun b4 => ?_)  -- gjk.go:75
  refine steps_nil ?_
  refine cw_seq ?_
  refine cw_sr ?_
  refine steps_q rfl (q_move rfl) ?_  -- gjk.go:76
  refine steps_q rfl (q_call ent23 rfl rfl (fun w' hw => by simpa using gjk_fine w' (SlAt.st hv0 hw) (by omega))) ?_  -- gjk.go:76
  refine steps_q rfl (q_assign rfl) ?_  -- gjk.go:76
  refine steps_nil ?_
  refine cw_sr ?_
  refine steps_q rfl (q_move rfl) ?_  -- gjk.go:76
  refine steps_q rfl (q_bin rfl rfl (neq_f he)) ?_  -- gjk.go:76
  refine steps_nil ?_
  refine cw_cond _ rfl (fun hc1 => ?_) (fun hc1 => ?_)
  · cases hc1
  · -- no 1
    refine cw_skip ?_
    refine at_then ?_
    refine cw_defer rfl rfl ?_
    refine cw_sr ?_
    refine steps_q rfl (q_move rfl) ?_  -- gjk.go:84
    refine steps_s (s_callSt ent39 rfl rfl rfl (R := WK ps) (fun w' hw => by simpa using gjk_walk w' (SlAt.st hv0 hw) hok h1 h256) fun v Ln hZ => ?_)  -- gjk.go:84
    obtain ⟨own, g, cur, cap, steps, hE, s1, s2, rfl, rfl, hsv⟩ := hZ
    refine steps_q rfl (q_move rfl) ?_  -- gjk.go:84
    refine steps_q rfl (q_extract rfl rfl) ?_  -- gjk.go:84
    refine steps_q rfl (q_extract rfl rfl) ?_  -- gjk.go:84
    refine steps_s (s_storeW 2 siz36 rfl rfl rfl rfl rfl rfl ?_)  -- gjk.go:84
    refine steps_s (s_storeV 3 siz3 rfl rfl rfl rfl rfl ?_)  -- gjk.go:84
    refine steps_nil ?_
    refine cw_join (S := Unit) (fun _ => [(2, .pointer (some ⟨b2, 0, none⟩)), (3, .pointer (some ⟨b3, 0, none⟩)), (4, .pointer (some ⟨b4, 0, none⟩))]) (fun _ => [(63, (g, .cells cur.toArray 3 (0, 0))), (2, (b2, .cells (Nr.l ⟨(nrOf (sel ps own)).n, (nrOf (sel ps own)).d, .slice (some ⟨g, 0, none⟩) own.length cap⟩).toArray 36 (0, 0))), (3, (b3, .cells [.int .i64 steps].toArray 3 (0, 0))), (4, (b4, .cells [.int .i64 0].toArray 24 (0, 0)))]) (fun _ => True) ?_ fun _ _ => ?_
    · -- the orders of region 6
      refine cw_draw mixed [] 5 (without _ [2, 3, 4]) (by kernel_rfl) (sub_without _ _) ?_
      refine qi_nil ?_
      refine tail_cons [0, 1] (by kernel_rfl) ⟨⟨_, rfl, rfl, ?_⟩, ⟨_, rfl, rfl, ?_⟩, trivial⟩
      · refine (q_loadW 2 agg36 rfl rfl rfl).step rfl (by decide) ⟨(sub_without _ _), ?_⟩
        refine tail_cons [1, 2] (by kernel_rfl) ⟨⟨_, rfl, rfl, ?_⟩, ⟨_, rfl, rfl, ?_⟩, trivial⟩
        · refine (q_load1 3 one3 rfl rfl rfl).step rfl (by decide) ⟨(sub_without _ _), ?_⟩
          refine tail_one 2 (by kernel_rfl) rfl rfl (s_storeW 2 siz36 rfl rfl rfl rfl rfl rfl ⟨(subl_cons rfl (sub_without _ _)), ?_⟩)  -- gjk.go:85
          refine tail_one 3 (by kernel_rfl) rfl rfl (s_storeV 3 siz3 rfl rfl rfl rfl rfl ⟨(subl_cons rfl (subl_cons rfl (sub_without _ _))), ?_⟩)  -- gjk.go:85
          refine tail_one 4 (by kernel_rfl) rfl rfl (s_storeV 4 siz24 rfl rfl rfl rfl rfl ⟨(subl_cons rfl (subl_cons rfl (subl_cons rfl (sub_without _ _)))), ?_⟩)  -- gjk.go:85
          refine tail_nil (by kernel_rfl) ?_
          exact at_join () (trivial) (subs ⟨rfl, rfl, rfl, trivial⟩) (subs ⟨rfl, rfl, rfl, rfl, trivial⟩)
        · refine s_storeW 2 siz36 rfl rfl rfl rfl rfl rfl ⟨(subl_cons rfl (sub_without _ _)), ?_⟩
          refine tail_one 1 (by kernel_rfl) rfl rfl ((q_load1 3 one3 rfl rfl rfl).step rfl (by decide) ⟨(subl_cons rfl (sub_without _ _)), ?_⟩)  -- gjk.go:85
          refine tail_one 3 (by kernel_rfl) rfl rfl (s_storeV 3 siz3 rfl rfl rfl rfl rfl ⟨(subl_cons rfl (subl_cons rfl (sub_without _ _))), ?_⟩)  -- gjk.go:85
          refine tail_one 4 (by kernel_rfl) rfl rfl (s_storeV 4 siz24 rfl rfl rfl rfl rfl ⟨(subl_cons rfl (subl_cons rfl (subl_cons rfl (sub_without _ _)))), ?_⟩)  -- gjk.go:85
          refine tail_nil (by kernel_rfl) ?_
          exact at_join () (trivial) (subs ⟨rfl, rfl, rfl, trivial⟩) (subs ⟨rfl, rfl, rfl, rfl, trivial⟩)
      · refine (q_load1 3 one3 rfl rfl rfl).step rfl (by decide) ⟨(sub_without _ _), ?_⟩
        refine tail_one 0 (by kernel_rfl) rfl rfl ((q_loadW 2 agg36 rfl rfl rfl).step rfl (by decide) ⟨(sub_without _ _), ?_⟩)  -- gjk.go:85
        refine tail_one 2 (by kernel_rfl) rfl rfl (s_storeW 2 siz36 rfl rfl rfl rfl rfl rfl ⟨(subl_cons rfl (sub_without _ _)), ?_⟩)  -- gjk.go:85
        refine tail_one 3 (by kernel_rfl) rfl rfl (s_storeV 3 siz3 rfl rfl rfl rfl rfl ⟨(subl_cons rfl (subl_cons rfl (sub_without _ _))), ?_⟩)  -- gjk.go:85
        refine tail_one 4 (by kernel_rfl) rfl rfl (s_storeV 4 siz24 rfl rfl rfl rfl rfl ⟨(subl_cons rfl (subl_cons rfl (subl_cons rfl (sub_without _ _)))), ?_⟩)  -- gjk.go:85
        refine tail_nil (by kernel_rfl) ?_
        exact at_join () (trivial) (subs ⟨rfl, rfl, rfl, trivial⟩) (subs ⟨rfl, rfl, rfl, rfl, trivial⟩)
    · -- behind region 6
      refine cw_ret ?_
      exact retD_st rfl (rv_agg 2 agg36 rfl rfl rfl (rv_one 3 one3 rfl rfl rfl (rv_one 4 one24 rfl rfl rfl rv_nil))) ent38 (found_idle _ _ _) rfl ⟨own, g, cur, cap, steps, hE, s1, s2, rfl, rfl, hsv⟩ fun w' hw => hw.only (j := 63) rfl
theorem gjk_found_bad {ps : List Pt} {v : Value} (w : World) (hv : PtsAt w v ps) (hl : ps.length ≤ 9223372036854775807) (he : errG ps ≠ 0) :
    Calls Tryz.prog 27 #[v] w fun e w' => e = .returned (.tuple #[.agg (Nr.l nrZ).toArray, .int .i64 0, .int .i64 (errG ps)]) ∧ Below w.heap.size w w' := by
  have hv0 := hv
  obtain ⟨a, c0, rfl, hs⟩ := hv
  rw [List.length_map] at hv0 ⊢
  refine calls_of Tryz.func27 rfl Tryz.ntmps27 rfl (St.start w) (args := [.slice a ps.length c0]) ?_
  refine cw_sr ?_
  refine steps_s (s_allocA 2 rfl zer36 fun b2 => ?_)  -- gjk.go:75
  refine steps_s (s_alloc1 3 rfl zer3 rfl fun b3 => ?_)  -- gjk.go:75
  refine steps_s (s_alloc1 4 rfl zer24 rfl fun b4 => ?_)  -- gjk.go:75
  refine steps_nil ?_
  refine cw_seq ?_
  refine cw_sr ?_
  refine steps_q rfl (q_move rfl) ?_  -- gjk.go:76
  refine steps_q rfl (q_call ent23 rfl rfl (fun w' hw => by simpa using gjk_fine w' (SlAt.st hv0 hw) hl)) ?_  -- gjk.go:76
  refine steps_q rfl (q_assign rfl) ?_  -- gjk.go:76
  refine steps_nil ?_
  refine cw_sr ?_
  refine steps_q rfl (q_move rfl) ?_  -- gjk.go:76
  refine steps_q rfl (q_bin rfl rfl (neq_t he)) ?_  -- gjk.go:76
  refine steps_nil ?_
  refine cw_cond _ rfl (fun hc1 => ?_) (fun hc1 => ?_)
  · -- yes 1
    refine cw_sr ?_
    refine steps_q rfl (q_build (vs := []) rfl rfl bldN0) ?_  -- gjk.go:77
    refine steps_q rfl (q_move rfl) ?_  -- gjk.go:77
    refine steps_s (s_storeW 2 siz36 rfl rfl rfl rfl rfl rfl ?_)  -- gjk.go:77
    refine steps_s (s_storeV 3 siz3 rfl rfl rfl rfl rfl ?_)  -- gjk.go:77
    refine steps_s (s_storeV 4 siz24 rfl rfl rfl rfl rfl ?_)  -- gjk.go:77
    refine steps_nil ?_
    refine cw_ret ?_
    exact ret_pure rfl (rv_agg 2 agg36 rfl rfl rfl (rv_one 3 one3 rfl rfl rfl (rv_one 4 one24 rfl rfl rfl rv_nil))) rfl
  · cases hc1
/-- What Near hands back. -/
def GN (ps : List Pt) (v : Value) (Ln : HL) : Prop := ∃ own g cur cap, Ends ps own ∧
  v = .tuple #[.agg (Nr.l ⟨(nrOf (sel ps own)).n, (nrOf (sel ps own)).d, .slice (some ⟨g, 0, none⟩) own.length cap⟩).toArray, .int .i64 0] ∧ Ln = [(63, (g, .cells cur.toArray 3 (0, 0)))] ∧ SV.ok 1 (some (g, cur, cap)) (own.map intC)
theorem ends_of_test {ps : List Pt} (h1 : 1 ≤ ps.length) (h4 : ps.length ≤ 4) {c : List Int} (hc : c ∈ choicesI ps.length) (ht : testB ps c = true) : Ends ps c := by
  obtain ⟨c1, c4, ck, cup⟩ := choice_len (n4 (by omega) (by omega)) hc
  obtain ⟨hg, ha⟩ := (testB_iff c1 c4).1 ht
  exact ⟨⟨cup, ck, hg⟩, ha⟩
theorem leq_t {a b : Int} (h : a ≤ b) : binI .leq .i64 a .i64 b = some (.bool true) := by simp [binI, h]
theorem leq_f {a b : Int} (h : ¬ a ≤ b) : binI .leq .i64 a .i64 b = some (.bool false) := by simp [binI]; omega
theorem geq_t {a b : Int} (h : a ≥ b) : binI .geq .i64 a .i64 b = some (.bool true) := by simp [binI, h]
theorem geq_f {a b : Int} (h : ¬ a ≥ b) : binI .geq .i64 a .i64 b = some (.bool false) := by simp [binI]; omega
theorem eql_t {a b : Int} (h : a = b) : binI .eql .i64 a .i64 b = some (.bool true) := by simp [binI, h]
theorem eql_f {a b : Int} (h : a ≠ b) : binI .eql .i64 a .i64 b = some (.bool false) := by simp [binI, h]
theorem gjk_Near_ok {ps : List Pt} {v : Value} (w : World) (hv : PtsAt w v ps) (he : errG ps = 0) :
    Calls Tryz.prog 13 #[v] w fun e w' => ∃ v Ln, e = .returned v ∧ GN ps v Ln ∧ St w [] w' Ln := by
  have hv0 := hv
  obtain ⟨hok, h1, h256⟩ := errG_ok.1 he
  obtain ⟨a, c0, rfl, hs⟩ := hv
  rw [List.length_map] at hv0 ⊢
  refine calls_of Tryz.func13 rfl Tryz.ntmps13 rfl (St.start w) (args := [.slice a ps.length c0]) ?_
  by_cases h4 : ps.length ≤ 4
  · skip
    refine cw_sr ?_
    refine steps_s (s_allocA 2 rfl zer36 fun b2 => ?_)  -- gjk.go:89
    refine steps_q rfl (q_assign rfl) ?_  -- gjk.go:89
    refine steps_nil ?_
    refine cw_sr ?_
    refine steps_q rfl (q_move rfl) ?_  -- gjk.go:90
    refine steps_s (s_callSt ent27 rfl rfl rfl (R := FK ps) (fun w' hw => by simpa using gjk_found_ok w' (SlAt.st hv0 hw) he) fun v Ln hZ => ?_)  -- gjk.go:90
    obtain ⟨own, g, cur, cap, steps, hE, s1, s2, rfl, rfl, hsv⟩ := hZ
    refine steps_q rfl (q_move rfl) ?_  -- gjk.go:90
    refine steps_q rfl (q_extract rfl rfl) ?_  -- gjk.go:90
    refine steps_q rfl (q_extract rfl rfl) ?_  -- gjk.go:90
    refine steps_q rfl (q_extract rfl rfl) ?_  -- gjk.go:90
    refine steps_s (s_allocA 4 rfl zer36 fun b4 => ?_)  -- gjk.go:90
    refine steps_s (s_storeW 4 siz36 rfl rfl rfl rfl rfl rfl ?_)  -- gjk.go:90
    refine steps_q rfl (q_assign rfl) ?_  -- gjk.go:90
    refine steps_q rfl (q_assign rfl) ?_  -- gjk.go:90
    refine steps_nil ?_
    refine cw_seq ?_
    refine cw_sr ?_
    refine steps_q rfl (q_move rfl) ?_  -- gjk.go:91
    refine steps_q rfl (q_bin rfl rfl (eql_t rfl)) ?_  -- gjk.go:91
    refine steps_q rfl (q_move rfl) ?_  -- gjk.go:91
    refine steps_gq rfl rfl rfl (q_move rfl) ?_  -- gjk.go:91
    refine steps_gq rfl rfl rfl (q_lenSl Tryz.underlying22 rfl) ?_  -- gjk.go:91
    refine steps_gq rfl rfl rfl (q_bin rfl rfl (leq_t (by omega))) ?_  -- gjk.go:91
    refine steps_q rfl (q_pick_t rfl rfl) ?_  -- gjk.go:91
    refine steps_nil ?_
    refine cw_cond _ rfl (fun hc1 => ?_) (fun hc1 => ?_)
    · -- yes 1
      refine cw_sr ?_
      refine steps_q rfl (q_move rfl) ?_  -- gjk.go:92
      refine steps_s (s_callSt ent28 rfl rfl rfl (R := NR ps) (fun w' hw => by simpa using simplex_Near_ok w' (SlAt.st hv0 hw) hok h1 h4) fun v Ln hZ => ?_)  -- gjk.go:92
      obtain ⟨c, g, cur, cap, hc, ht, rfl, rfl, hsv⟩ := hZ
      refine steps_q rfl (q_extract rfl rfl) ?_  -- gjk.go:92
      refine steps_q rfl (q_extract rfl rfl) ?_  -- gjk.go:92
      refine steps_s (s_storeW 2 siz36 rfl rfl rfl rfl rfl rfl ?_)  -- gjk.go:92
      refine steps_q rfl (q_assign rfl) ?_  -- gjk.go:92
      refine steps_nil ?_
      refine cw_ret ?_
      exact ret_st rfl (rv_agg 2 agg36 rfl rfl rfl (rv_tmp rfl rv_nil)) rfl ⟨c, g, cur, cap, ends_of_test h1 h4 hc ht, rfl, rfl, hsv⟩ fun w' hw => hw.only (j := 63) rfl
    · cases hc1
  · skip
    refine cw_sr ?_
    refine steps_s (s_allocA 2 rfl zer36 fun b2 => ?_)  -- gjk.go:89
    refine steps_q rfl (q_assign rfl) ?_  -- gjk.go:89
    refine steps_nil ?_
    refine cw_sr ?_
    refine steps_q rfl (q_move rfl) ?_  -- gjk.go:90
    refine steps_s (s_callSt ent27 rfl rfl rfl (R := FK ps) (fun w' hw => by simpa using gjk_found_ok w' (SlAt.st hv0 hw) he) fun v Ln hZ => ?_)  -- gjk.go:90
    obtain ⟨own, g, cur, cap, steps, hE, s1, s2, rfl, rfl, hsv⟩ := hZ
    refine steps_q rfl (q_move rfl) ?_  -- gjk.go:90
    refine steps_q rfl (q_extract rfl rfl) ?_  -- gjk.go:90
    refine steps_q rfl (q_extract rfl rfl) ?_  -- gjk.go:90
    refine steps_q rfl (q_extract rfl rfl) ?_  -- gjk.go:90
    refine steps_s (s_allocA 4 rfl zer36 fun b4 => ?_)  -- gjk.go:90
    refine steps_s (s_storeW 4 siz36 rfl rfl rfl rfl rfl rfl ?_)  -- gjk.go:90
    refine steps_q rfl (q_assign rfl) ?_  -- gjk.go:90
    refine steps_q rfl (q_assign rfl) ?_  -- gjk.go:90
    refine steps_nil ?_
    refine cw_seq ?_
    refine cw_sr ?_
    refine steps_q rfl (q_move rfl) ?_  -- gjk.go:91
    refine steps_q rfl (q_bin rfl rfl (eql_t rfl)) ?_  -- gjk.go:91
    refine steps_q rfl (q_move rfl) ?_  -- gjk.go:91
    refine steps_gq rfl rfl rfl (q_move rfl) ?_  -- gjk.go:91
    refine steps_gq rfl rfl rfl (q_lenSl Tryz.underlying22 rfl) ?_  -- gjk.go:91
    refine steps_gq rfl rfl rfl (q_bin rfl rfl (leq_f (by omega))) ?_  -- gjk.go:91
    refine steps_q rfl (q_pick_t rfl rfl) ?_  -- gjk.go:91
    refine steps_nil ?_
    refine cw_cond _ rfl (fun hc1 => ?_) (fun hc1 => ?_)
    · cases hc1
    · -- no 1
      refine cw_skip ?_
      refine at_then ?_
      refine cw_sr ?_
      refine steps_q rfl (q_loadW 4 agg36 rfl rfl rfl) ?_  -- gjk.go:94
      refine steps_q rfl (q_move rfl) ?_  -- gjk.go:94
      refine steps_s (s_storeW 2 siz36 rfl rfl rfl rfl rfl rfl ?_)  -- gjk.go:94
      refine steps_q rfl (q_assign rfl) ?_  -- gjk.go:94
      refine steps_nil ?_
      refine cw_ret ?_
      exact ret_st rfl (rv_agg 2 agg36 rfl rfl rfl (rv_tmp rfl rv_nil)) rfl ⟨own, g, cur, cap, hE, rfl, rfl, hsv⟩ fun w' hw => hw.only (j := 63) rfl
theorem gjk_Near_bad {ps : List Pt} {v : Value} (w : World) (hv : PtsAt w v ps) (hl : ps.length ≤ 9223372036854775807) (he : errG ps ≠ 0) :
    Calls Tryz.prog 13 #[v] w fun e w' => e = .returned (.tuple #[.agg (Nr.l nrZ).toArray, .int .i64 (errG ps)]) ∧ Below w.heap.size w w' := by
  have hv0 := hv
  obtain ⟨a, c0, rfl, hs⟩ := hv
  rw [List.length_map] at hv0 ⊢
  refine calls_of Tryz.func13 rfl Tryz.ntmps13 rfl (St.start w) (args := [.slice a ps.length c0]) ?_
  refine cw_sr ?_
  refine steps_s (s_allocA 2 rfl zer36 fun b2 => ?_)  -- gjk.go:89
  refine steps_q rfl (q_assign rfl) ?_  -- gjk.go:89
  refine steps_nil ?_
  refine cw_sr ?_
  refine steps_q rfl (q_move rfl) ?_  -- gjk.go:90
  refine steps_q rfl (q_call ent27 rfl rfl (fun w' hw => by simpa using gjk_found_bad w' (SlAt.st hv0 hw) hl he)) ?_  -- gjk.go:90
  refine steps_q rfl (q_move rfl) ?_  -- gjk.go:90
  refine steps_q rfl (q_extract rfl rfl) ?_  -- gjk.go:90
  refine steps_q rfl (q_extract rfl rfl) ?_  -- gjk.go:90
  refine steps_q rfl (q_extract rfl rfl) ?_  -- gjk.go:90
  refine steps_s (s_allocA 4 rfl zer36 fun b4 => ?_)  -- gjk.go:90
  refine steps_s (s_storeW 4 siz36 rfl rfl rfl rfl rfl rfl ?_)  -- gjk.go:90
  refine steps_q rfl (q_assign rfl) ?_  -- gjk.go:90
  refine steps_q rfl (q_assign rfl) ?_  -- gjk.go:90
  refine steps_nil ?_
  refine cw_seq ?_
  refine cw_sr ?_
  refine steps_q rfl (q_move rfl) ?_  -- gjk.go:91
  refine steps_q rfl (q_bin rfl rfl (eql_f he)) ?_  -- gjk.go:91
  refine steps_q rfl (q_move rfl) ?_  -- gjk.go:91
  refine steps_gn rfl rfl rfl rfl ?_  -- gjk.go:91
  refine steps_gn rfl rfl rfl rfl ?_  -- gjk.go:91
  refine steps_gn rfl rfl rfl rfl ?_  -- gjk.go:91
  refine steps_q rfl (q_pick_f rfl rfl) ?_  -- gjk.go:91
  refine steps_nil ?_
  refine cw_cond _ rfl (fun hc1 => ?_) (fun hc1 => ?_)
  · cases hc1
  · -- no 1
    refine cw_skip ?_
    refine at_then ?_
    refine cw_sr ?_
    refine steps_q rfl (q_loadW 4 agg36 rfl rfl rfl) ?_  -- gjk.go:94
    refine steps_q rfl (q_move rfl) ?_  -- gjk.go:94
    refine steps_s (s_storeW 2 siz36 rfl rfl rfl rfl rfl rfl ?_)  -- gjk.go:94
    refine steps_q rfl (q_assign rfl) ?_  -- gjk.go:94
    refine steps_nil ?_
    refine cw_ret ?_
    exact ret_pure rfl (rv_agg 2 agg36 rfl rfl rfl (rv_tmp rfl rv_nil)) rfl
/-- What Steps hands back. -/
def GS (ps : List Pt) (v : Value) (Ln : HL) : Prop := ∃ steps : Int, 1 ≤ steps ∧ steps ≤ mostI ps.length ∧ v = .tuple #[.int .i64 steps, .int .i64 0] ∧ Ln = []
theorem gjk_Steps_ok {ps : List Pt} {v : Value} (w : World) (hv : PtsAt w v ps) (he : errG ps = 0) :
    Calls Tryz.prog 15 #[v] w fun e w' => ∃ v Ln, e = .returned v ∧ GS ps v Ln ∧ St w [] w' Ln := by
  have hv0 := hv
  obtain ⟨a, c0, rfl, hs⟩ := hv
  rw [List.length_map] at hv0 ⊢
  refine calls_of Tryz.func15 rfl Tryz.ntmps15 rfl (St.start w) (args := [.slice a ps.length c0]) ?_
  refine cw_sr ?_
  refine steps_q rfl (q_assign rfl) ?_  -- gjk.go:98
  refine steps_q rfl (q_assign rfl) ?_  -- gjk.go:98
  refine steps_nil ?_
  refine cw_sr ?_
  refine steps_q rfl (q_move rfl) ?_  -- gjk.go:99
  refine steps_s (s_callSt ent27 rfl rfl rfl (R := FK ps) (fun w' hw => by simpa using gjk_found_ok w' (SlAt.st hv0 hw) he) fun v Ln hZ => ?_)  -- gjk.go:99
  obtain ⟨own, g, cur, cap, steps, hE, s1, s2, rfl, rfl, hsv⟩ := hZ
  refine steps_q rfl (q_move rfl) ?_  -- gjk.go:99
  refine steps_q rfl (q_extract rfl rfl) ?_  -- gjk.go:99
  refine steps_q rfl (q_extract rfl rfl) ?_  -- gjk.go:99
  refine steps_q rfl (q_extract rfl rfl) ?_  -- gjk.go:99
  refine steps_s (s_allocA 4 rfl zer36 fun b4 => ?_)  -- gjk.go:99
  refine steps_s (s_storeW 4 siz36 rfl rfl rfl rfl rfl rfl ?_)  -- gjk.go:99
  refine steps_q rfl (q_assign rfl) ?_  -- gjk.go:99
  refine steps_q rfl (q_assign rfl) ?_  -- gjk.go:99
  refine steps_nil ?_
  refine cw_sr ?_
  refine steps_q rfl (q_move rfl) ?_  -- gjk.go:100
  refine steps_q rfl (q_move rfl) ?_  -- gjk.go:100
  refine steps_q rfl (q_assign rfl) ?_  -- gjk.go:100
  refine steps_q rfl (q_assign rfl) ?_  -- gjk.go:100
  refine steps_nil ?_
  refine cw_ret ?_
  exact ret_st rfl (rv_tmp rfl (rv_tmp rfl rv_nil)) rfl ⟨steps, s1, s2, rfl, rfl⟩ fun w' hw => hw.weaken (subs trivial)
theorem gjk_Steps_bad {ps : List Pt} {v : Value} (w : World) (hv : PtsAt w v ps) (hl : ps.length ≤ 9223372036854775807) (he : errG ps ≠ 0) :
    Calls Tryz.prog 15 #[v] w fun e w' => e = .returned (.tuple #[.int .i64 0, .int .i64 (errG ps)]) ∧ Below w.heap.size w w' := by
  have hv0 := hv
  obtain ⟨a, c0, rfl, hs⟩ := hv
  rw [List.length_map] at hv0 ⊢
  refine calls_of Tryz.func15 rfl Tryz.ntmps15 rfl (St.start w) (args := [.slice a ps.length c0]) ?_
  refine cw_sr ?_
  refine steps_q rfl (q_assign rfl) ?_  -- gjk.go:98
  refine steps_q rfl (q_assign rfl) ?_  -- gjk.go:98
  refine steps_nil ?_
  refine cw_sr ?_
  refine steps_q rfl (q_move rfl) ?_  -- gjk.go:99
  refine steps_q rfl (q_call ent27 rfl rfl (fun w' hw => by simpa using gjk_found_bad w' (SlAt.st hv0 hw) hl he)) ?_  -- gjk.go:99
  refine steps_q rfl (q_move rfl) ?_  -- gjk.go:99
  refine steps_q rfl (q_extract rfl rfl) ?_  -- gjk.go:99
  refine steps_q rfl (q_extract rfl rfl) ?_  -- gjk.go:99
  refine steps_q rfl (q_extract rfl rfl) ?_  -- gjk.go:99
  refine steps_s (s_allocA 4 rfl zer36 fun b4 => ?_)  -- gjk.go:99
  refine steps_s (s_storeW 4 siz36 rfl rfl rfl rfl rfl rfl ?_)  -- gjk.go:99
  refine steps_q rfl (q_assign rfl) ?_  -- gjk.go:99
  refine steps_q rfl (q_assign rfl) ?_  -- gjk.go:99
  refine steps_nil ?_
  refine cw_sr ?_
  refine steps_q rfl (q_move rfl) ?_  -- gjk.go:100
  refine steps_q rfl (q_move rfl) ?_  -- gjk.go:100
  refine steps_q rfl (q_assign rfl) ?_  -- gjk.go:100
  refine steps_q rfl (q_assign rfl) ?_  -- gjk.go:100
  refine steps_nil ?_
  refine cw_ret ?_
  exact ret_pure rfl (rv_tmp rfl (rv_tmp rfl rv_nil)) rfl
end Go.Proofs.YtomdahjakkifbaaGreat

/-
  The walks of package gjk: Less.
-/
namespace Go.Proofs.YtomdahjakkifbaaGreat
open Go Go.NP Go.RowKit Go.Proofs
set_option maxRecDepth 100000

/-- The differences of two lists. -/
def dif (a b : List Pt) : List Pt := a.flatMap fun p => b.map (subP p)
theorem dif_len (a b : List Pt) : (dif a b).length = a.length * b.length := by
  induction a with
  | nil => simp [dif]
  | cons p a ih =>
    have : dif (p :: a) b = b.map (subP p) ++ dif a b := rfl
    rw [this, List.length_append, ih, List.length_map, List.length_cons, Nat.add_mul]; omega
theorem dif_take {a b : List Pt} {i : Nat} {p : Pt} (h : a[i]? = some p) : dif (a.take (i + 1)) b = dif (a.take i) b ++ b.map (subP p) := by
  simp only [dif, List.take_add_one, h, List.flatMap_append]
  simp
def eC (i : Int) : Int := if i = 0 then 7 else if i = 1 then 3 else 2
/-- What stands against the differences. -/
def errL (a b : List Pt) : Int :=
  if errG a = 7 ∨ errG b = 7 then 7 else if errG a = 3 ∨ errG b = 3 then 3 else if errG a = 2 ∨ errG b = 2 then 2
  else if a.length * b.length > 256 then 3 else errG (dif a b)
theorem errG_cases (ps : List Pt) : errG ps = 0 ∨ errG ps = 2 ∨ errG ps = 3 ∨ errG ps = 7 := by
  unfold errG; split
  · split
    · simp
    · split <;> simp
  · simp
theorem errL_hit {a b : List Pt} {i : Int} (h0 : 0 ≤ i) (h1 : i < 3) (hn : ∀ j, 0 ≤ j → j < i → errG a ≠ eC j ∧ errG b ≠ eC j) (h : errG a = eC i ∨ errG b = eC i) : errL a b = eC i := by
  have : i = 0 ∨ i = 1 ∨ i = 2 := by omega
  rcases this with rfl | rfl | rfl
  · exact if_pos h
  · have h0 := hn 0 (by omega) (by omega)
    unfold errL
    rw [if_neg (by intro hh; rcases hh with hh | hh; exact h0.1 hh; exact h0.2 hh)]
    exact if_pos h
  · have h0 := hn 0 (by omega) (by omega)
    have h1 := hn 1 (by omega) (by omega)
    unfold errL
    rw [if_neg (by intro hh; rcases hh with hh | hh; exact h0.1 hh; exact h0.2 hh), if_neg (by intro hh; rcases hh with hh | hh; exact h1.1 hh; exact h1.2 hh)]
    exact if_pos h
theorem errL_rest {a b : List Pt} (hn : ∀ j, 0 ≤ j → j < 3 → errG a ≠ eC j ∧ errG b ≠ eC j) : errL a b = (if a.length * b.length > 256 then 3 else errG (dif a b)) ∧ errG a = 0 ∧ errG b = 0 := by
  have h0 := hn 0 (by omega) (by omega)
  have h1 := hn 1 (by omega) (by omega)
  have h2 := hn 2 (by omega) (by omega)
  refine ⟨?_, ?_, ?_⟩
  · unfold errL
    rw [if_neg (by intro hh; rcases hh with hh | hh; exact h0.1 hh; exact h0.2 hh), if_neg (by intro hh; rcases hh with hh | hh; exact h1.1 hh; exact h1.2 hh), if_neg (by intro hh; rcases hh with hh | hh; exact h2.1 hh; exact h2.2 hh)]
  · have : errG a ≠ 7 := h0.1
    have : errG a ≠ 3 := h1.1
    have : errG a ≠ 2 := h2.1
    have := errG_cases a; omega
  · have : errG b ≠ 7 := h0.2
    have : errG b ≠ 3 := h1.2
    have : errG b ≠ 2 := h2.2
    have := errG_cases b; omega
theorem bldE3 : ∀ w, (Instr.build 61 [(0, Value.int .i64 7), (1, Value.int .i64 3), (2, Value.int .i64 2)].toArray).run Tryz.prog w = .ok (.agg #[.int .i64 7, .int .i64 3, .int .i64 2]) w := fun w => by kernel_rfl
theorem eC_get {i : Int} (h0 : 0 ≤ i) (h1 : i < 3) : (#[Value.int .i64 7, .int .i64 3, .int .i64 2] : Array Value)[i.toNat]? = some (.int .i64 (eC i)) := by
  have : i = 0 ∨ i = 1 ∨ i = 2 := by omega
  rcases this with rfl | rfl | rfl <;> rfl
theorem hn_more {a b : List Pt} {i : Int} (hn : ∀ j, 0 ≤ j → j < i → errG a ≠ eC j ∧ errG b ≠ eC j) (h1 : ¬ errG a = eC i) (h2 : ¬ errG b = eC i) : ∀ j, 0 ≤ j → j < i + 1 → errG a ≠ eC j ∧ errG b ≠ eC j := fun j j0 j1 => by
  by_cases e : j = i
  · subst e; exact ⟨h1, h2⟩
  · exact hn j j0 (by omega)
/-- What Less hands back. -/
def LS (a b : List Pt) (v : Value) (Ln : HL) : Prop :=
  (errL a b = 0 ∧ ∃ g cur cap, v = .tuple #[.slice (some ⟨g, 0, none⟩) (dif a b).length cap, .int .i64 0] ∧ Ln = [(66, (g, .cells cur.toArray 47 (0, 0)))] ∧ SV.ok 3 (some (g, cur, cap)) ((dif a b).map Pt.l)) ∨
  (errL a b ≠ 0 ∧ v = .tuple #[.slice none 0 0, .int .i64 (errL a b)] ∧ Ln = [])
theorem three (p q : Prop) : p ∨ (¬ p ∧ q) ∨ (¬ p ∧ ¬ q) := by
  rcases Classical.em p with hp | hp
  · exact .inl hp
  · rcases Classical.em q with hq | hq
    · exact .inr (.inl ⟨hp, hq⟩)
    · exact .inr (.inr ⟨hp, hq⟩)
theorem eC_ne (i : Int) : eC i ≠ 0 := by unfold eC; split <;> (try split) <;> omega

set_option maxHeartbeats 4000000 in
theorem gjk_Less {a b : List Pt} {u v : Value} (w : World) (hu : PtsAt w u a) (hv : PtsAt w v b) (hla : a.length ≤ 9223372036854775807) (hlb : b.length ≤ 9223372036854775807) :
    Calls Tryz.prog 7 #[u, v] w fun e w' => ∃ v Ln, e = .returned v ∧ LS a b v Ln ∧ St w [] w' Ln := by
  have hu0 := hu
  have hv0 := hv
  obtain ⟨x, c, rfl, hs⟩ := hu
  obtain ⟨y, c', rfl, hs'⟩ := hv
  rw [List.length_map] at hu0 ⊢
  rw [List.length_map] at hv0 ⊢
  refine calls_of Tryz.func7 rfl Tryz.ntmps7 rfl (St.start w) (args := [.slice x a.length c, .slice y b.length c']) ?_
  refine cw_sr ?_
  refine steps_q rfl (q_assign rfl) ?_  -- gjk.go:104
  refine steps_q rfl (q_assign rfl) ?_  -- gjk.go:104
  refine steps_nil ?_
  refine cw_sr ?_
  refine steps_q rfl (q_move rfl) ?_  -- gjk.go:105
  refine steps_q rfl (q_call ent23 rfl rfl (fun w' hw => by simpa using gjk_fine w' (SlAt.st hu0 hw) hla)) ?_  -- gjk.go:105
  refine steps_q rfl (q_move rfl) ?_  -- gjk.go:105
  refine steps_q rfl (q_call ent23 rfl rfl (fun w' hw => by simpa using gjk_fine w' (SlAt.st hv0 hw) hlb)) ?_  -- gjk.go:105
  refine steps_q rfl (q_assign rfl) ?_  -- gjk.go:105
  refine steps_q rfl (q_assign rfl) ?_  -- gjk.go:105
  refine steps_nil ?_
  refine cw_seq ?_
  refine cw_sr ?_
  refine steps_q rfl (q_build (vs := [(0, _), (1, _), (2, _)]) rfl rfl bldE3) ?_  -- gjk.go:106
  refine steps_q rfl (q_move rfl) ?_  -- gjk.go:106
  refine steps_nil ?_
  refine cw_block ?_
  -- LOOP 1 writes [9, 21, 22, 23, 24, 25, 26, 27, 28, 29, 30, 31, 32, 33]  stores via []  reads [6, 7, 20]
  refine cw_loop (S := Int) (fun i => [(0, .slice x a.length c), (1, .slice y b.length c'), (6, .int .i64 (errG a)), (7, .int .i64 (errG b)), (20, .agg #[.int .i64 7, .int .i64 3, .int .i64 2]), (21, .int .i64 i)]) (fun _ => []) (fun i => 0 ≤ i ∧ i ≤ 3 ∧ ∀ j, 0 ≤ j → j < i → errG a ≠ eC j ∧ errG b ≠ eC j) (fun i => (3 - i).toNat) 0 ⟨by omega, by omega, fun j h0 h1 => by omega⟩ (subs ⟨rfl, rfl, rfl, rfl, rfl, rfl, trivial⟩) (subs trivial) ?_
  intro i ⟨i0, i1, hn⟩
  refine cw_sr ?_
  refine steps_q rfl (q_bin rfl rfl rfl) ?_  -- gjk.go:106
  refine steps_nil ?_
  refine cw_seq ?_
  refine cw_cond _ rfl (fun hc1 => ?_) (fun hc1 => ?_)
  · -- yes 1
    have hi : i < 3 := of_decide_eq_true hc1
    refine cw_skip ?_
    refine at_then ?_
    refine cw_seq ?_
    refine cw_block ?_
    refine cw_sr ?_
    refine steps_q rfl (q_indexV1 arr61 one24 rfl rfl i0 (by omega) (eC_get i0 hi)) ?_  -- gjk.go:106
    refine steps_q rfl (q_assign rfl) ?_  -- gjk.go:106
    refine steps_nil ?_
    rcases three (errG a = eC i) (errG b = eC i) with hx | ⟨hx, hy⟩ | ⟨hx, hy⟩
    · -- way 5.a
      refine cw_sr ?_
      refine steps_q rfl (q_move rfl) ?_  -- gjk.go:107
      refine steps_q rfl (q_move rfl) ?_  -- gjk.go:107
      refine steps_q rfl (q_bin rfl rfl (eql_t hx)) ?_  -- gjk.go:107
      refine steps_q rfl (q_move rfl) ?_  -- gjk.go:107
      refine steps_gn rfl rfl rfl rfl ?_  -- gjk.go:107
      refine steps_gn rfl rfl rfl rfl ?_  -- gjk.go:107
      refine steps_gn rfl rfl rfl rfl ?_  -- gjk.go:107
      refine steps_q rfl (q_pick_t rfl rfl) ?_  -- gjk.go:107
      refine steps_nil ?_
      refine cw_cond _ rfl (fun hc2 => ?_) (fun hc2 => ?_)
      · -- yes 2
        have hE := errL_hit i0 hi hn (.inl hx)
        rw [← hE]
        refine cw_sr ?_
        refine steps_q rfl (q_move rfl) ?_  -- gjk.go:108
        refine steps_q rfl (q_assign rfl) ?_  -- gjk.go:108
        refine steps_q rfl (q_assign rfl) ?_  -- gjk.go:108
        refine steps_nil ?_
        refine cw_ret ?_
        exact ret_st rfl (rv_tmp rfl (rv_tmp rfl rv_nil)) rfl (.inr ⟨by rw [hE]; exact eC_ne i, rfl, rfl⟩) fun w' hw => hw
      · cases hc2
    · -- way 5.b
      refine cw_sr ?_
      refine steps_q rfl (q_move rfl) ?_  -- gjk.go:107
      refine steps_q rfl (q_move rfl) ?_  -- gjk.go:107
      refine steps_q rfl (q_bin rfl rfl (eql_f hx)) ?_  -- gjk.go:107
      refine steps_q rfl (q_move rfl) ?_  -- gjk.go:107
      refine steps_gq rfl rfl rfl (q_move rfl) ?_  -- gjk.go:107
      refine steps_gq rfl rfl rfl (q_move rfl) ?_  -- gjk.go:107
      refine steps_gq rfl rfl rfl (q_bin rfl rfl (eql_t hy)) ?_  -- gjk.go:107
      refine steps_q rfl (q_pick_f rfl rfl) ?_  -- gjk.go:107
      refine steps_nil ?_
      refine cw_cond _ rfl (fun hc2 => ?_) (fun hc2 => ?_)
      · -- yes 2
        have hE := errL_hit i0 hi hn (.inr hy)
        rw [← hE]
        refine cw_sr ?_
        refine steps_q rfl (q_move rfl) ?_  -- gjk.go:108
        refine steps_q rfl (q_assign rfl) ?_  -- gjk.go:108
        refine steps_q rfl (q_assign rfl) ?_  -- gjk.go:108
        refine steps_nil ?_
        refine cw_ret ?_
        exact ret_st rfl (rv_tmp rfl (rv_tmp rfl rv_nil)) rfl (.inr ⟨by rw [hE]; exact eC_ne i, rfl, rfl⟩) fun w' hw => hw
      · cases hc2
    · -- way 5.c
      refine cw_sr ?_
      refine steps_q rfl (q_move rfl) ?_  -- gjk.go:107
      refine steps_q rfl (q_move rfl) ?_  -- gjk.go:107
      refine steps_q rfl (q_bin rfl rfl (eql_f hx)) ?_  -- gjk.go:107
      refine steps_q rfl (q_move rfl) ?_  -- gjk.go:107
      refine steps_gq rfl rfl rfl (q_move rfl) ?_  -- gjk.go:107
      refine steps_gq rfl rfl rfl (q_move rfl) ?_  -- gjk.go:107
      refine steps_gq rfl rfl rfl (q_bin rfl rfl (eql_f hy)) ?_  -- gjk.go:107
      refine steps_q rfl (q_pick_f rfl rfl) ?_  -- gjk.go:107
      refine steps_nil ?_
      refine cw_cond _ rfl (fun hc2 => ?_) (fun hc2 => ?_)
      · cases hc2
      · -- no 2
        refine cw_skip ?_
        refine at_then ?_
        refine cw_region ?_
        refine steps_q rfl (q_bin rfl rfl (add64 (by omega) (by omega))) ?_  -- gjk.go:106
        refine steps_q rfl (q_move rfl) ?_  -- gjk.go:106
        refine steps_nil ?_
        exact at_round (i + 1) ⟨by omega, by omega, hn_more hn hx hy⟩ (by omega) (subs ⟨rfl, rfl, rfl, rfl, rfl, rfl, trivial⟩) (subs trivial)
  · -- no 1
    have hi : ¬ i < 3 := of_decide_eq_false hc1
    obtain rfl : i = 3 := by omega
    obtain ⟨hE, ea, eb⟩ := errL_rest hn
    obtain ⟨oka, la1, la2⟩ := errG_ok.1 ea
    obtain ⟨okb, lb1, lb2⟩ := errG_ok.1 eb
    have hprod : a.length * b.length ≤ 256 * 256 := Nat.mul_le_mul la2 lb2
    have ep : ((a.length * b.length : Nat) : Int) = (a.length : Int) * b.length := by push_cast; rfl
    have hdl := dif_len a b
    refine cw_exit ?_
    refine at_then ?_
    refine cw_seq ?_
    refine cw_sr ?_
    refine steps_q rfl (q_move rfl) ?_  -- gjk.go:111
    refine steps_q rfl (q_lenSl Tryz.underlying22 rfl) ?_  -- gjk.go:111
    refine steps_q rfl (q_move rfl) ?_  -- gjk.go:111
    refine steps_q rfl (q_lenSl Tryz.underlying22 rfl) ?_  -- gjk.go:111
    refine steps_q rfl (q_bin rfl rfl (mul64 (by omega) (by omega))) ?_  -- gjk.go:111
    refine steps_q rfl (q_bin rfl rfl rfl) ?_  -- gjk.go:111
    refine steps_nil ?_
    refine cw_cond _ rfl (fun hc3 => ?_) (fun hc3 => ?_)
    · -- yes 3
      have h3 : (a.length : Int) * b.length > 256 := of_decide_eq_true hc3
      have hE3 : errL a b = 3 := by rw [hE, if_pos (by omega)]
      refine cw_sr ?_
      refine steps_q rfl (q_assign rfl) ?_  -- gjk.go:112
      refine steps_q rfl (q_assign rfl) ?_  -- gjk.go:112
      refine steps_nil ?_
      refine cw_ret ?_
      exact ret_st rfl (rv_tmp rfl (rv_tmp rfl rv_nil)) (by rw [← hE3]; rfl) (.inr ⟨by rw [hE3]; decide, rfl, rfl⟩) fun w' hw => hw
    · -- no 3
      have h3 : ¬ (a.length : Int) * b.length > 256 := of_decide_eq_false hc3
      have hle : a.length * b.length ≤ 256 := by omega
      rw [if_neg (by omega)] at hE
      refine cw_skip ?_
      refine at_then ?_
      refine cw_sr ?_
      refine steps_q rfl (q_assign rfl) ?_  -- gjk.go:114
      refine steps_nil ?_
      refine cw_seq ?_
      refine cw_sr ?_
      refine steps_q rfl (q_move rfl) ?_  -- gjk.go:115
      refine steps_q rfl (q_lenSl Tryz.underlying22 rfl) ?_  -- gjk.go:115
      refine steps_q rfl (q_move rfl) ?_  -- gjk.go:115
      refine steps_nil ?_
      refine cw_block ?_
      -- LOOP 2 writes [10, 12, 14, 42, 43, 44, 45, 46, 47, 48, 49, 50, 51, 52, 53, 54, 55, 56, 57, 58, 59, 60, 61, 62, 63, 64, 65, 66, 67, 68, 69, 70, 71, 72]  stores via [12, 14]  reads [1, 40, 41]
      refine cw_loop (S := Nat × SV) (fun s => [(1, .slice y b.length c'), (10, s.2.v (dif (a.take s.1) b).length), (40, .slice x a.length c), (41, .int .i64 a.length), (42, .int .i64 s.1)]) (fun s => s.2.l 66 47) (fun s => s.1 ≤ a.length ∧ s.2.ok 3 ((dif (a.take s.1) b).map Pt.l)) (fun s => a.length - s.1) (0, none) ⟨by dsimp only; omega, by simp [SV.ok, dif]⟩ (subs ⟨rfl, rfl, rfl, rfl, rfl, trivial⟩) (subs trivial) ?_
      rintro ⟨i, sv⟩ ⟨i1, hsv⟩
      dsimp only at i1 hsv
      conv => enter [7]; dsimp only
      conv => enter [8]; dsimp only
      refine cw_sr ?_
      refine steps_q rfl (q_bin rfl rfl rfl) ?_  -- gjk.go:115
      refine steps_nil ?_
      refine cw_seq ?_
      refine cw_cond _ rfl (fun hc4 => ?_) (fun hc4 => ?_)
      · -- yes 4
        have hi : (i : Int) < (a.length : Int) := of_decide_eq_true hc4
        obtain ⟨p, hp⟩ : ∃ p, a[i]? = some p := ⟨a[i]'(by omega), List.getElem?_eq_getElem (by omega)⟩
        have hpl : (a.map Pt.l)[(i : Int).toNat]? = some p.l := by rw [Int.toNat_natCast, List.getElem?_map, hp]; rfl
        have hpin := oka p (List.mem_of_getElem? hp)
        obtain ⟨bl, off, l0, fz, rfl, hb, hpt⟩ := hs.resolve_left (by intro h; rw [h] at hpl; simp at hpl)
        have hti := dif_take (b := b) hp
        have hil : (dif (a.take i) b).length = i * b.length := by rw [dif_len, List.length_take]; congr 1; omega
        have hsucc : (i + 1) * b.length ≤ a.length * b.length := Nat.mul_le_mul_right _ (by omega)
        rw [Nat.add_mul, Nat.one_mul] at hsucc
        refine cw_skip ?_
        refine at_then ?_
        refine cw_seq ?_
        refine cw_block ?_
        refine cw_sr ?_
        refine steps_q rfl (q_indexSl slc22 rfl rfl (by omega) hi) ?_  -- gjk.go:115
        refine steps_q rfl (q_loadAo agg47 rfl hb (by simp) (hpt _ _ hpl)) ?_  -- gjk.go:115
        refine steps_s (s_allocA 12 rfl zer47 fun b12 => ?_)  -- gjk.go:115
        refine steps_s (s_storeW 12 siz47 rfl rfl rfl rfl rfl rfl ?_)  -- gjk.go:115
        refine steps_nil ?_
        refine cw_sr ?_
        refine steps_q rfl (q_move rfl) ?_  -- gjk.go:116
        refine steps_q rfl (q_lenSl Tryz.underlying22 rfl) ?_  -- gjk.go:116
        refine steps_q rfl (q_move rfl) ?_  -- gjk.go:116
        refine steps_nil ?_
        refine cw_block ?_
        -- LOOP 3 writes [10, 14, 48, 49, 50, 51, 52, 53, 54, 55, 56, 57, 58, 59, 60, 61, 62, 63, 64, 65, 66, 67, 68, 69, 70, 71]  stores via [14]  reads [12, 46, 47]
        refine cw_loop (S := Nat × SV) (fun s => [(1, .slice y b.length c'), (10, s.2.v ((dif (a.take i) b).length + s.1)), (12, .pointer (some ⟨b12, 0, none⟩)), (40, .slice (some ⟨bl, off, none⟩) a.length c), (41, .int .i64 a.length), (42, .int .i64 i), (46, .slice y b.length c'), (47, .int .i64 b.length), (48, .int .i64 s.1)]) (fun s => ([(12, (b12, .cells p.l.toArray 47 (0, 0)))] : HL) ++ s.2.l 66 47) (fun s => s.1 ≤ b.length ∧ s.2.ok 3 ((dif (a.take i) b ++ (b.take s.1).map (subP p)).map Pt.l)) (fun s => b.length - s.1) (0, sv) ⟨by dsimp only; omega, by simpa using hsv⟩ (subs ⟨rfl, rfl, rfl, rfl, rfl, rfl, rfl, rfl, rfl, trivial⟩) (by rcases sv with _ | ⟨g1, cur1, cap1⟩; exact (subs ⟨rfl, trivial⟩); exact (subs ⟨rfl, rfl, trivial⟩)) ?_
        rintro ⟨j, sv2⟩ ⟨j1, hsv2⟩
        dsimp only at j1 hsv2
        conv => enter [7]; dsimp only
        conv => enter [8]; dsimp only
        have hjl : ((dif (a.take i) b ++ (b.take j).map (subP p)).map Pt.l).length = (dif (a.take i) b).length + j := by rw [List.length_map, List.length_append, List.length_map, List.length_take]; omega
        refine cw_sr ?_
        refine steps_q rfl (q_bin rfl rfl rfl) ?_  -- gjk.go:116
        refine steps_nil ?_
        refine cw_seq ?_
        refine cw_cond _ rfl (fun hc5 => ?_) (fun hc5 => ?_)
        · -- yes 5
          have hj : (j : Int) < (b.length : Int) := of_decide_eq_true hc5
          obtain ⟨q, hq⟩ : ∃ q, b[j]? = some q := ⟨b[j]'(by omega), List.getElem?_eq_getElem (by omega)⟩
          have hql : (b.map Pt.l)[(j : Int).toNat]? = some q.l := by rw [Int.toNat_natCast, List.getElem?_map, hq]; rfl
          have hqin := okb q (List.mem_of_getElem? hq)
          obtain ⟨bl', off', l0', fz', rfl, hb', hpt'⟩ := hs'.resolve_left (by intro h; rw [h] at hql; simp at hql)
          have htj := take_more (f := subP p) hq
          obtain ⟨px, py, pz⟩ := hpin
          obtain ⟨qx, qy, qz⟩ := hqin
          refine cw_skip ?_
          refine at_then ?_
          refine cw_seq ?_
          refine cw_block ?_
          refine cw_sr ?_
          refine steps_q rfl (q_indexSl slc22 rfl rfl (by omega) hj) ?_  -- gjk.go:116
          refine steps_q rfl (q_loadAo agg47 rfl hb' (by simp) (hpt' _ _ hql)) ?_  -- gjk.go:116
          refine steps_s (s_allocA 14 rfl zer47 fun b14 => ?_)  -- gjk.go:116
          refine steps_s (s_storeW 14 siz47 rfl rfl rfl rfl rfl rfl ?_)  -- gjk.go:116
          refine steps_nil ?_
          rcases sv2 with _ | ⟨g1, cur1, cap1⟩
          · -- way 17.a
            refine cw_region ?_
            refine steps_q rfl (q_move rfl) ?_  -- gjk.go:117
            refine steps_q rfl (q_field fld47_0 rfl) ?_  -- gjk.go:117
            refine steps_q rfl (q_load1 12 one2 rfl rfl rfl) ?_  -- gjk.go:117
            refine steps_q rfl (q_field fld47_0 rfl) ?_  -- gjk.go:117
            refine steps_q rfl (q_load1 14 one2 rfl rfl rfl) ?_  -- gjk.go:117
            refine steps_q rfl (q_bin rfl rfl (sub64 (by omega) (by omega))) ?_  -- gjk.go:117
            refine steps_q rfl (q_field fld47_1 rfl) ?_  -- gjk.go:117
            refine steps_q rfl (q_load1 12 one2 rfl rfl rfl) ?_  -- gjk.go:117
            refine steps_q rfl (q_field fld47_1 rfl) ?_  -- gjk.go:117
            refine steps_q rfl (q_load1 14 one2 rfl rfl rfl) ?_  -- gjk.go:117
            refine steps_q rfl (q_bin rfl rfl (sub64 (by omega) (by omega))) ?_  -- gjk.go:117
            refine steps_q rfl (q_field fld47_2 rfl) ?_  -- gjk.go:117
            refine steps_q rfl (q_load1 12 one2 rfl rfl rfl) ?_  -- gjk.go:117
            refine steps_q rfl (q_field fld47_2 rfl) ?_  -- gjk.go:117
            refine steps_q rfl (q_load1 14 one2 rfl rfl rfl) ?_  -- gjk.go:117
            refine steps_q rfl (q_bin rfl rfl (sub64 (by omega) (by omega))) ?_  -- gjk.go:117
            refine steps_q rfl (q_build (vs := [(0, _), (1, _), (2, _)]) rfl rfl (bldP (subP p q))) ?_  -- gjk.go:117
            refine steps_s (s_buildSl 69 rfl rfl rfl (bslP (subP p q)) fun b69 => ?_)  -- gjk.go:117
            refine steps_s (s_appendN 66 69 none ((dif (a.take i) b).length + j) ((dif (a.take i) b ++ (b.take j).map (subP p)).map Pt.l) (subP p q).l hjl elt22 rfl rfl hsv2 (subs trivial) rfl rfl rfl rfl (by omega) (by unfold maxLen; omega) fun g1 cur1 cap1 hk1 => ?_)  -- gjk.go:117
            refine steps_q rfl (q_assign rfl) ?_  -- gjk.go:117
            refine steps_nil ?_
            refine at_then ?_
            refine cw_region ?_
            refine steps_q rfl (q_bin rfl rfl (add64 (by omega) (by omega))) ?_  -- gjk.go:116
            refine steps_q rfl (q_move rfl) ?_  -- gjk.go:116
            refine steps_nil ?_
            exact at_round (j + 1, some (g1, cur1, cap1)) ⟨by dsimp only; omega, by dsimp only; rw [htj, ← List.append_assoc, List.map_append]; exact hk1⟩ (by dsimp only; omega) (subs ⟨rfl, rfl, rfl, rfl, rfl, rfl, rfl, rfl, by dsimp only; rw [show ((j + 1 : Nat) : Int) = j + 1 by omega]; rfl, trivial⟩) (subs ⟨rfl, rfl, trivial⟩)
          · -- way 17.b
            refine cw_region ?_
            refine steps_q rfl (q_move rfl) ?_  -- gjk.go:117
            refine steps_q rfl (q_field fld47_0 rfl) ?_  -- gjk.go:117
            refine steps_q rfl (q_load1 12 one2 rfl rfl rfl) ?_  -- gjk.go:117
            refine steps_q rfl (q_field fld47_0 rfl) ?_  -- gjk.go:117
            refine steps_q rfl (q_load1 14 one2 rfl rfl rfl) ?_  -- gjk.go:117
            refine steps_q rfl (q_bin rfl rfl (sub64 (by omega) (by omega))) ?_  -- gjk.go:117
            refine steps_q rfl (q_field fld47_1 rfl) ?_  -- gjk.go:117
            refine steps_q rfl (q_load1 12 one2 rfl rfl rfl) ?_  -- gjk.go:117
            refine steps_q rfl (q_field fld47_1 rfl) ?_  -- gjk.go:117
            refine steps_q rfl (q_load1 14 one2 rfl rfl rfl) ?_  -- gjk.go:117
            refine steps_q rfl (q_bin rfl rfl (sub64 (by omega) (by omega))) ?_  -- gjk.go:117
            refine steps_q rfl (q_field fld47_2 rfl) ?_  -- gjk.go:117
            refine steps_q rfl (q_load1 12 one2 rfl rfl rfl) ?_  -- gjk.go:117
            refine steps_q rfl (q_field fld47_2 rfl) ?_  -- gjk.go:117
            refine steps_q rfl (q_load1 14 one2 rfl rfl rfl) ?_  -- gjk.go:117
            refine steps_q rfl (q_bin rfl rfl (sub64 (by omega) (by omega))) ?_  -- gjk.go:117
            refine steps_q rfl (q_build (vs := [(0, _), (1, _), (2, _)]) rfl rfl (bldP (subP p q))) ?_  -- gjk.go:117
            refine steps_s (s_buildSl 69 rfl rfl rfl (bslP (subP p q)) fun b69 => ?_)  -- gjk.go:117
            refine steps_s (s_appendN 66 69 (some (g1, cur1, cap1)) ((dif (a.take i) b).length + j) ((dif (a.take i) b ++ (b.take j).map (subP p)).map Pt.l) (subP p q).l hjl elt22 rfl rfl hsv2 (subs ⟨rfl, trivial⟩) rfl rfl rfl rfl (by omega) (by unfold maxLen; omega) fun g1 cur1 cap1 hk1 => ?_)  -- gjk.go:117
            refine steps_q rfl (q_assign rfl) ?_  -- gjk.go:117
            refine steps_nil ?_
            refine at_then ?_
            refine cw_region ?_
            refine steps_q rfl (q_bin rfl rfl (add64 (by omega) (by omega))) ?_  -- gjk.go:116
            refine steps_q rfl (q_move rfl) ?_  -- gjk.go:116
            refine steps_nil ?_
            exact at_round (j + 1, some (g1, cur1, cap1)) ⟨by dsimp only; omega, by dsimp only; rw [htj, ← List.append_assoc, List.map_append]; exact hk1⟩ (by dsimp only; omega) (subs ⟨rfl, rfl, rfl, rfl, rfl, rfl, rfl, rfl, by dsimp only; rw [show ((j + 1 : Nat) : Int) = j + 1 by omega]; rfl, trivial⟩) (subs ⟨rfl, rfl, trivial⟩)
        · -- no 5
          have hj : ¬ (j : Int) < (b.length : Int) := of_decide_eq_false hc5
          have hjb : j = b.length := by omega
          subst hjb
          rw [List.take_of_length_le (Nat.le_refl _), ← hti] at hsv2 hjl
          rw [List.length_map] at hjl
          refine cw_exit ?_
          refine at_then ?_
          refine cw_region ?_
          refine steps_q rfl (q_bin rfl rfl (add64 (by omega) (by omega))) ?_  -- gjk.go:115
          refine steps_q rfl (q_move rfl) ?_  -- gjk.go:115
          refine steps_nil ?_
          exact at_round (i + 1, sv2) ⟨by dsimp only; omega, hsv2⟩ (by dsimp only; omega) (subs ⟨rfl, by dsimp only; rw [hjl]; rfl, rfl, rfl, by dsimp only; rw [show ((i + 1 : Nat) : Int) = i + 1 by omega]; rfl, trivial⟩) (by rcases sv2 with _ | ⟨g1, cur1, cap1⟩; exact (subs trivial); exact (subs ⟨rfl, trivial⟩))
      · -- no 4
        have hi : ¬ (i : Int) < (a.length : Int) := of_decide_eq_false hc4
        rw [List.take_of_length_le (by omega)] at hsv ⊢
        have hpos : 1 * 1 ≤ a.length * b.length := Nat.mul_le_mul la1 lb1
        rcases sv with _ | ⟨g1, cur1, cap1⟩
        · exfalso
          have := SV.len0 hsv
          rw [List.length_map] at this
          omega
        refine cw_exit ?_
        refine at_then ?_
        refine cw_seq ?_
        refine cw_sr ?_
        refine steps_q rfl (q_move rfl) ?_  -- gjk.go:120
        refine steps_q rfl (q_call ent23 rfl rfl (fun w' hw => by have h0 : PtsAt w' (.slice (some ⟨g1, 0, none⟩) (dif a b).length cap1) (dif a b) := (by have := SlAt.own (q := some (g1, cur1, cap1)) (i := 66) (e := 47) hw (subs ⟨rfl, trivial⟩) hsv; rwa [List.length_map] at this); simpa using gjk_fine w' h0 (by omega))) ?_  -- gjk.go:120
        rw [← hE]
        refine steps_q rfl (q_assign rfl) ?_  -- gjk.go:120
        refine steps_nil ?_
        refine cw_sr ?_
        refine steps_q rfl (q_move rfl) ?_  -- gjk.go:120
        refine steps_q rfl (q_bin rfl rfl rfl) ?_  -- gjk.go:120
        refine steps_nil ?_
        refine cw_cond _ rfl (fun hc6 => ?_) (fun hc6 => ?_)
        · -- yes 6
          have h6 : errL a b ≠ 0 := by simpa using hc6
          refine cw_sr ?_
          refine steps_q rfl (q_move rfl) ?_  -- gjk.go:121
          refine steps_q rfl (q_assign rfl) ?_  -- gjk.go:121
          refine steps_q rfl (q_assign rfl) ?_  -- gjk.go:121
          refine steps_nil ?_
          refine cw_ret ?_
          exact ret_st rfl (rv_tmp rfl (rv_tmp rfl rv_nil)) rfl (.inr ⟨h6, rfl, rfl⟩) fun w' hw => hw.weaken (subs trivial)
        · -- no 6
          have h6 : errL a b = 0 := by simpa using hc6
          refine cw_skip ?_
          refine at_then ?_
          refine cw_sr ?_
          refine steps_q rfl (q_move rfl) ?_  -- gjk.go:123
          refine steps_q rfl (q_assign rfl) ?_  -- gjk.go:123
          refine steps_q rfl (q_assign rfl) ?_  -- gjk.go:123
          refine steps_nil ?_
          refine cw_ret ?_
          exact ret_st rfl (rv_tmp rfl (rv_tmp rfl rv_nil)) rfl (.inl ⟨h6, g1, cur1, cap1, rfl, rfl, hsv⟩) fun w' hw => hw.weaken (subs ⟨rfl, trivial⟩)
end Go.Proofs.YtomdahjakkifbaaGreat

/-
  The walks of package gjk: Apart, Meets; of the law: same, choices, box, awake.
-/
namespace Go.Proofs.YtomdahjakkifbaaGreat
open Go Go.NP Go.RowKit Go.Proofs
set_option maxRecDepth 100000

theorem errL_zero {a b : List Pt} (h : errL a b = 0) : errG (dif a b) = 0 := by
  unfold errL at h
  split at h
  · omega
  · split at h
    · omega
    · split at h
      · omega
      · split at h
        · omega
        · exact h
def LS1 (a b : List Pt) (v : Value) (Ln : HL) : Prop := ∃ g cur cap, v = .tuple #[.slice (some ⟨g, 0, none⟩) (dif a b).length cap, .int .i64 0] ∧ Ln = [(66, (g, .cells cur.toArray 47 (0, 0)))] ∧ SV.ok 3 (some (g, cur, cap)) ((dif a b).map Pt.l)
theorem gjk_Less_ok {a b : List Pt} {u v : Value} (w : World) (hu : PtsAt w u a) (hv : PtsAt w v b) (hla : a.length ≤ 9223372036854775807) (hlb : b.length ≤ 9223372036854775807) (he : errL a b = 0) :
    Calls Tryz.prog 7 #[u, v] w fun e w' => ∃ v Ln, e = .returned v ∧ LS1 a b v Ln ∧ St w [] w' Ln :=
  (gjk_Less w hu hv hla hlb).mono fun _ _ ⟨v, Ln, h1, h2, h3⟩ => ⟨v, Ln, h1, by
    rcases h2 with ⟨_, h⟩ | ⟨h, _⟩
    · exact h
    · exact absurd he h, h3⟩
theorem gjk_Less_bad {a b : List Pt} {u v : Value} (w : World) (hu : PtsAt w u a) (hv : PtsAt w v b) (hla : a.length ≤ 9223372036854775807) (hlb : b.length ≤ 9223372036854775807) (he : errL a b ≠ 0) :
    Calls Tryz.prog 7 #[u, v] w fun e w' => e = .returned (.tuple #[.slice none 0 0, .int .i64 (errL a b)]) ∧ Below w.heap.size w w' :=
  (gjk_Less w hu hv hla hlb).mono fun _ _ ⟨v, Ln, h1, h2, h3⟩ => by
    rcases h2 with ⟨h, _⟩ | ⟨_, h, _⟩
    · exact absurd h he
    · subst h; exact ⟨h1, h3.below⟩
theorem gjk_Apart_ok {a b : List Pt} {u v : Value} (w : World) (hu : PtsAt w u a) (hv : PtsAt w v b) (hla : a.length ≤ 9223372036854775807) (hlb : b.length ≤ 9223372036854775807) (he : errL a b = 0) :
    Calls Tryz.prog 10 #[u, v] w fun e w' => ∃ v Ln, e = .returned v ∧ GN (dif a b) v Ln ∧ St w [] w' Ln := by
  have hu0 := hu
  have hv0 := hv
  obtain ⟨x, c, rfl, hs⟩ := hu
  obtain ⟨y, c', rfl, hs'⟩ := hv
  rw [List.length_map] at hu0 ⊢
  rw [List.length_map] at hv0 ⊢
  refine calls_of Tryz.func10 rfl Tryz.ntmps10 rfl (St.start w) (args := [.slice x a.length c, .slice y b.length c']) ?_
  refine cw_sr ?_
  refine steps_s (s_allocA 4 rfl zer36 fun b4 => ?_)  -- gjk.go:127
  refine steps_q rfl (q_assign rfl) ?_  -- gjk.go:127
  refine steps_nil ?_
  refine cw_sr ?_
  refine steps_q rfl (q_move rfl) ?_  -- gjk.go:128
  refine steps_q rfl (q_move rfl) ?_  -- gjk.go:128
  refine steps_s (s_callSt ent7 rfl rfl rfl (R := LS1 a b) (fun w' hw => by simpa using gjk_Less_ok w' (SlAt.st hu0 hw) (SlAt.st hv0 hw) hla hlb he) fun v Ln hZ => ?_)  -- gjk.go:128
  obtain ⟨g, cur, cap, rfl, rfl, hsv⟩ := hZ
  refine steps_q rfl (q_move rfl) ?_  -- gjk.go:128
  refine steps_q rfl (q_extract rfl rfl) ?_  -- gjk.go:128
  refine steps_q rfl (q_extract rfl rfl) ?_  -- gjk.go:128
  refine steps_q rfl (q_assign rfl) ?_  -- gjk.go:128
  refine steps_q rfl (q_assign rfl) ?_  -- gjk.go:128
  refine steps_nil ?_
  refine cw_seq ?_
  refine cw_sr ?_
  refine steps_q rfl (q_move rfl) ?_  -- gjk.go:129
  refine steps_q rfl (q_bin rfl rfl (neq_f rfl)) ?_  -- gjk.go:129
  refine steps_nil ?_
  refine cw_cond _ rfl (fun hc1 => ?_) (fun hc1 => ?_)
  · cases hc1
  · -- no 1
    refine cw_skip ?_
    refine at_then ?_
    refine cw_sr ?_
    refine steps_q rfl (q_move rfl) ?_  -- gjk.go:132
    refine steps_s (s_callSt ent13 rfl rfl rfl (R := GN (dif a b)) (fun w' hw => by have h0 : PtsAt w' (.slice (some ⟨g, 0, none⟩) (dif a b).length cap) (dif a b) := (by have := SlAt.own (q := some (g, cur, cap)) (i := 66) (e := 47) hw (subs ⟨rfl, trivial⟩) hsv; rwa [List.length_map] at this); simpa using gjk_Near_ok w' h0 (errL_zero he)) fun v Ln hZ => ?_)  -- gjk.go:132
    obtain ⟨own, g2, cur2, cap2, hE, rfl, rfl, hsv2⟩ := hZ
    refine steps_q rfl (q_extract rfl rfl) ?_  -- gjk.go:132
    refine steps_q rfl (q_extract rfl rfl) ?_  -- gjk.go:132
    refine steps_s (s_storeW 4 siz36 rfl rfl rfl rfl rfl rfl ?_)  -- gjk.go:132
    refine steps_q rfl (q_assign rfl) ?_  -- gjk.go:132
    refine steps_nil ?_
    refine cw_ret ?_
    exact ret_st rfl (rv_agg 4 agg36 rfl rfl rfl (rv_tmp rfl rv_nil)) rfl ⟨own, g2, cur2, cap2, hE, rfl, rfl, hsv2⟩ fun w' hw => hw.only (j := 63) rfl
theorem gjk_Apart_bad {a b : List Pt} {u v : Value} (w : World) (hu : PtsAt w u a) (hv : PtsAt w v b) (hla : a.length ≤ 9223372036854775807) (hlb : b.length ≤ 9223372036854775807) (he : errL a b ≠ 0) :
    Calls Tryz.prog 10 #[u, v] w fun e w' => e = .returned (.tuple #[.agg (Nr.l nrZ).toArray, .int .i64 (errL a b)]) ∧ Below w.heap.size w w' := by
  have hu0 := hu
  have hv0 := hv
  obtain ⟨x, c, rfl, hs⟩ := hu
  obtain ⟨y, c', rfl, hs'⟩ := hv
  rw [List.length_map] at hu0 ⊢
  rw [List.length_map] at hv0 ⊢
  refine calls_of Tryz.func10 rfl Tryz.ntmps10 rfl (St.start w) (args := [.slice x a.length c, .slice y b.length c']) ?_
  refine cw_sr ?_
  refine steps_s (s_allocA 4 rfl zer36 fun b4 => ?_)  -- gjk.go:127
  refine steps_q rfl (q_assign rfl) ?_  -- gjk.go:127
  refine steps_nil ?_
  refine cw_sr ?_
  refine steps_q rfl (q_move rfl) ?_  -- gjk.go:128
  refine steps_q rfl (q_move rfl) ?_  -- gjk.go:128
  refine steps_q rfl (q_call ent7 rfl rfl (fun w' hw => by simpa using gjk_Less_bad w' (SlAt.st hu0 hw) (SlAt.st hv0 hw) hla hlb he)) ?_  -- gjk.go:128
  refine steps_q rfl (q_move rfl) ?_  -- gjk.go:128
  refine steps_q rfl (q_extract rfl rfl) ?_  -- gjk.go:128
  refine steps_q rfl (q_extract rfl rfl) ?_  -- gjk.go:128
  refine steps_q rfl (q_assign rfl) ?_  -- gjk.go:128
  refine steps_q rfl (q_assign rfl) ?_  -- gjk.go:128
  refine steps_nil ?_
  refine cw_seq ?_
  refine cw_sr ?_
  refine steps_q rfl (q_move rfl) ?_  -- gjk.go:129
  refine steps_q rfl (q_bin rfl rfl (neq_t he)) ?_  -- gjk.go:129
  refine steps_nil ?_
  refine cw_cond _ rfl (fun hc1 => ?_) (fun hc1 => ?_)
  · -- yes 1
    refine cw_sr ?_
    refine steps_q rfl (q_build (vs := []) rfl rfl bldN0) ?_  -- gjk.go:130
    refine steps_q rfl (q_move rfl) ?_  -- gjk.go:130
    refine steps_s (s_storeW 4 siz36 rfl rfl rfl rfl rfl rfl ?_)  -- gjk.go:130
    refine steps_q rfl (q_assign rfl) ?_  -- gjk.go:130
    refine steps_nil ?_
    refine cw_ret ?_
    exact ret_pure rfl (rv_agg 4 agg36 rfl rfl rfl (rv_tmp rfl rv_nil)) rfl
  · cases hc1
theorem bldS0L : ∀ w, (Instr.build 33 [].toArray).run Tryz.prog w = .ok (.agg (Sp.l ⟨0, 0, 0⟩).toArray) w := fun w => by kernel_rfl
/-- What Meets hands back. -/
def MK (ps : List Pt) (v : Value) (Ln : HL) : Prop := ∃ own, Ends ps own ∧ v = .tuple #[.bool (decide ((nrOf (sel ps own)).n = ⟨0, 0, 0⟩)), .int .i64 0] ∧ Ln = []
theorem ends_fits {ps : List Pt} (hok : okPts ps) {own : List Int} (h : Ends ps own) : (nrOf (sel ps own)).n.In Mid ∧ 1 ≤ (nrOf (sel ps own)).d ∧ (nrOf (sel ps own)).d ≤ Mid :=
  nrOf_bd (sel_ok hok h.1.at') h.1.good.ne h.1.good.le (by have := h.1.good.dpos; omega)
theorem in_fits {n : Sp} (h : n.In Mid) : n.fits := h.fits (by decide)
theorem gjk_Meets_ok {a b : List Pt} {u v : Value} (w : World) (hu : PtsAt w u a) (hv : PtsAt w v b) (hla : a.length ≤ 9223372036854775807) (hlb : b.length ≤ 9223372036854775807) (he : errL a b = 0) :
    Calls Tryz.prog 11 #[u, v] w fun e w' => ∃ v Ln, e = .returned v ∧ MK (dif a b) v Ln ∧ St w [] w' Ln := by
  have hu0 := hu
  have hv0 := hv
  obtain ⟨x, c, rfl, hs⟩ := hu
  obtain ⟨y, c', rfl, hs'⟩ := hv
  rw [List.length_map] at hu0 ⊢
  rw [List.length_map] at hv0 ⊢
  have hokd := (errG_ok.1 (errL_zero he)).1
  refine calls_of Tryz.func11 rfl Tryz.ntmps11 rfl (St.start w) (args := [.slice x a.length c, .slice y b.length c']) ?_
  refine cw_sr ?_
  refine steps_q rfl (q_assign rfl) ?_  -- gjk.go:136
  refine steps_q rfl (q_assign rfl) ?_  -- gjk.go:136
  refine steps_nil ?_
  refine cw_sr ?_
  refine steps_q rfl (q_move rfl) ?_  -- gjk.go:137
  refine steps_q rfl (q_move rfl) ?_  -- gjk.go:137
  refine steps_s (s_callSt ent10 rfl rfl rfl (R := GN (dif a b)) (fun w' hw => by simpa using gjk_Apart_ok w' (SlAt.st hu0 hw) (SlAt.st hv0 hw) hla hlb he) fun v Ln hZ => ?_)  -- gjk.go:137
  obtain ⟨own, g2, cur2, cap2, hE, rfl, rfl, hsv2⟩ := hZ
  have hf := ends_fits hokd hE
  refine steps_q rfl (q_move rfl) ?_  -- gjk.go:137
  refine steps_q rfl (q_extract rfl rfl) ?_  -- gjk.go:137
  refine steps_q rfl (q_extract rfl rfl) ?_  -- gjk.go:137
  refine steps_s (s_allocA 6 rfl zer36 fun b6 => ?_)  -- gjk.go:137
  refine steps_s (s_storeW 6 siz36 rfl rfl rfl rfl rfl rfl ?_)  -- gjk.go:137
  refine steps_q rfl (q_assign rfl) ?_  -- gjk.go:137
  refine steps_nil ?_
  refine cw_sr ?_
  refine steps_q rfl (q_move rfl) ?_  -- gjk.go:138
  refine steps_q rfl (q_bin rfl rfl (eql_t rfl)) ?_  -- gjk.go:138
  refine steps_q rfl (q_move rfl) ?_  -- gjk.go:138
  refine steps_gq rfl rfl rfl (q_field fld36_0 rfl) ?_  -- gjk.go:138
  refine steps_gq rfl rfl rfl (q_loadA 6 agg33 rfl rfl (nr0 _)) ?_  -- gjk.go:138
  refine steps_gq rfl rfl rfl (q_build (vs := []) rfl rfl bldS0L) ?_  -- gjk.go:138
  refine steps_gq rfl rfl rfl (q_aeql rfl rfl (eqlS (in_fits hf.1) z3fits)) ?_  -- gjk.go:138
  refine steps_q rfl (q_pick_t rfl rfl) ?_  -- gjk.go:138
  refine steps_q rfl (q_move rfl) ?_  -- gjk.go:138
  refine steps_q rfl (q_assign rfl) ?_  -- gjk.go:138
  refine steps_q rfl (q_assign rfl) ?_  -- gjk.go:138
  refine steps_nil ?_
  refine cw_ret ?_
  exact ret_st rfl (rv_tmp rfl (rv_tmp rfl rv_nil)) rfl ⟨own, hE, rfl, rfl⟩ fun w' hw => hw.weaken (subs trivial)
theorem gjk_Meets_bad {a b : List Pt} {u v : Value} (w : World) (hu : PtsAt w u a) (hv : PtsAt w v b) (hla : a.length ≤ 9223372036854775807) (hlb : b.length ≤ 9223372036854775807) (he : errL a b ≠ 0) :
    Calls Tryz.prog 11 #[u, v] w fun e w' => e = .returned (.tuple #[.bool false, .int .i64 (errL a b)]) ∧ Below w.heap.size w w' := by
  have hu0 := hu
  have hv0 := hv
  obtain ⟨x, c, rfl, hs⟩ := hu
  obtain ⟨y, c', rfl, hs'⟩ := hv
  rw [List.length_map] at hu0 ⊢
  rw [List.length_map] at hv0 ⊢
  refine calls_of Tryz.func11 rfl Tryz.ntmps11 rfl (St.start w) (args := [.slice x a.length c, .slice y b.length c']) ?_
  refine cw_sr ?_
  refine steps_q rfl (q_assign rfl) ?_  -- gjk.go:136
  refine steps_q rfl (q_assign rfl) ?_  -- gjk.go:136
  refine steps_nil ?_
  refine cw_sr ?_
  refine steps_q rfl (q_move rfl) ?_  -- gjk.go:137
  refine steps_q rfl (q_move rfl) ?_  -- gjk.go:137
  refine steps_q rfl (q_call ent10 rfl rfl (fun w' hw => by simpa using gjk_Apart_bad w' (SlAt.st hu0 hw) (SlAt.st hv0 hw) hla hlb he)) ?_  -- gjk.go:137
  refine steps_q rfl (q_move rfl) ?_  -- gjk.go:137
  refine steps_q rfl (q_extract rfl rfl) ?_  -- gjk.go:137
  refine steps_q rfl (q_extract rfl rfl) ?_  -- gjk.go:137
  refine steps_s (s_allocA 6 rfl zer36 fun b6 => ?_)  -- gjk.go:137
  refine steps_s (s_storeW 6 siz36 rfl rfl rfl rfl rfl rfl ?_)  -- gjk.go:137
  refine steps_q rfl (q_assign rfl) ?_  -- gjk.go:137
  refine steps_nil ?_
  refine cw_sr ?_
  refine steps_q rfl (q_move rfl) ?_  -- gjk.go:138
  refine steps_q rfl (q_bin rfl rfl (eql_f he)) ?_  -- gjk.go:138
  refine steps_q rfl (q_move rfl) ?_  -- gjk.go:138
  refine steps_gn rfl rfl rfl rfl ?_  -- gjk.go:138
  refine steps_gn rfl rfl rfl rfl ?_  -- gjk.go:138
  refine steps_gn rfl rfl rfl rfl ?_  -- gjk.go:138
  refine steps_gn rfl rfl rfl rfl ?_  -- gjk.go:138
  refine steps_q rfl (q_pick_f rfl rfl) ?_  -- gjk.go:138
  refine steps_q rfl (q_move rfl) ?_  -- gjk.go:138
  refine steps_q rfl (q_assign rfl) ?_  -- gjk.go:138
  refine steps_q rfl (q_assign rfl) ?_  -- gjk.go:138
  refine steps_nil ?_
  refine cw_ret ?_
  exact ret_pure rfl (rv_tmp rfl (rv_tmp rfl rv_nil)) rfl

/-! ## The law's own functions -/
def sameB (a b : Nr) : Bool := decide (a.n = b.n ∧ a.d = b.d)
theorem law_same {a b : Nr} (fa : a.n.fits) (fb : b.n.fits) (da : Fits a.d) (db : Fits b.d) : PureF Tryz.prog 12 [.agg a.l.toArray, .agg b.l.toArray] (.bool (sameB a b)) := by
  refine pure_of Tryz.func12 rfl Tryz.ntmps12 rfl fun w => ?_
  by_cases hn : a.n = b.n
  · rw [show sameB a b = decide (a.d = b.d) by unfold sameB; simp [hn]]
    refine cw_sr ?_
    refine steps_s (s_boxA 2 rfl rfl fun b2 => ?_)  -- law.go:31
    refine steps_s (s_boxA 3 rfl rfl fun b3 => ?_)  -- law.go:31
    refine steps_q rfl (q_assign rfl) ?_  -- law.go:31
    refine steps_nil ?_
    refine cw_sr ?_
    refine steps_q rfl (q_field fld36_0 rfl) ?_  -- law.go:31
    refine steps_q rfl (q_loadA 2 agg33 rfl rfl (nr0 a)) ?_  -- law.go:31
    refine steps_q rfl (q_field fld36_0 rfl) ?_  -- law.go:31
    refine steps_q rfl (q_loadA 3 agg33 rfl rfl (nr0 b)) ?_  -- law.go:31
    refine steps_q rfl (q_aeql rfl rfl (eqlS fa fb)) ?_  -- law.go:31
    rw [decide_eq_true hn]
    refine steps_q rfl (q_move rfl) ?_  -- law.go:31
    refine steps_gq rfl rfl rfl (q_field fld36_1 rfl) ?_  -- law.go:31
    refine steps_gq rfl rfl rfl (q_loadA 2 agg31 rfl rfl (nr1 a)) ?_  -- law.go:31
    refine steps_gq rfl rfl rfl (q_field fld36_1 rfl) ?_  -- law.go:31
    refine steps_gq rfl rfl rfl (q_loadA 3 agg31 rfl rfl (nr1 b)) ?_  -- law.go:31
    refine steps_gq rfl rfl rfl (q_aeql rfl rfl (eqlW da db)) ?_  -- law.go:31
    refine steps_q rfl (q_pick_t rfl rfl) ?_  -- law.go:31
    refine steps_q rfl (q_assign rfl) ?_  -- law.go:31
    refine steps_nil ?_
    refine cw_ret ?_
    exact ret_pure rfl (rv_tmp rfl rv_nil) rfl
  · rw [show sameB a b = false by unfold sameB; simp [hn]]
    refine cw_sr ?_
    refine steps_s (s_boxA 2 rfl rfl fun b2 => ?_)  -- law.go:31
    refine steps_s (s_boxA 3 rfl rfl fun b3 => ?_)  -- law.go:31
    refine steps_q rfl (q_assign rfl) ?_  -- law.go:31
    refine steps_nil ?_
    refine cw_sr ?_
    refine steps_q rfl (q_field fld36_0 rfl) ?_  -- law.go:31
    refine steps_q rfl (q_loadA 2 agg33 rfl rfl (nr0 a)) ?_  -- law.go:31
    refine steps_q rfl (q_field fld36_0 rfl) ?_  -- law.go:31
    refine steps_q rfl (q_loadA 3 agg33 rfl rfl (nr0 b)) ?_  -- law.go:31
    refine steps_q rfl (q_aeql rfl rfl (eqlS fa fb)) ?_  -- law.go:31
    rw [decide_eq_false hn]
    refine steps_q rfl (q_move rfl) ?_  -- law.go:31
    refine steps_gn rfl rfl rfl rfl ?_  -- law.go:31
    refine steps_gn rfl rfl rfl rfl ?_  -- law.go:31
    refine steps_gn rfl rfl rfl rfl ?_  -- law.go:31
    refine steps_gn rfl rfl rfl rfl ?_  -- law.go:31
    refine steps_gn rfl rfl rfl rfl ?_  -- law.go:31
    refine steps_q rfl (q_pick_f rfl rfl) ?_  -- law.go:31
    refine steps_q rfl (q_assign rfl) ?_  -- law.go:31
    refine steps_nil ?_
    refine cw_ret ?_
    exact ret_pure rfl (rv_tmp rfl rv_nil) rfl
end Go.Proofs.YtomdahjakkifbaaGreat

/-
  The walks of the law: box, awake.
-/
namespace Go.Proofs.YtomdahjakkifbaaGreat
open Go Go.NP Go.RowKit Go.Proofs
set_option maxRecDepth 100000

/-- Where a walk ends is one point. -/
theorem ends_unique {ps : List Pt} {o q : List Int} (h : Ends ps o) (k : Ends ps q) : nrOf (sel ps o) = nrOf (sel ps q) := by
  have h1 := h.1.good.dpos
  have h2 := k.1.good.dpos
  have mem : ∀ {o : List Int}, Ends ps o → ∀ p ∈ sel ps o, p ∈ ps := fun {o} h p hp => by
    obtain ⟨i, hi, rfl⟩ := List.mem_map.1 hp
    have := h.1.at' i hi
    exact List.mem_of_getElem? (ptI_get this.1 this.2)
  exact nrSum_eq (same_of_ahead h.1.good k.1.good (fun p hp => h.2 p (mem k p hp)) (fun p hp => k.2 p (mem h p hp))) (by omega) (by omega)
instance (l : List Pt) (N : Sp) (d : Int) : Decidable (Ahead l N d) := by unfold Ahead; exact inferInstance
/-- By reckoning. -/
theorem ends_of {ps : List Pt} {o : List Int} (h : (decide (o.Pairwise (· < ·)) && decide (∀ k ∈ o, 0 ≤ k ∧ k < ps.length) && decide (1 ≤ o.length) && decide (o.length ≤ 4) && decide (dI (sel ps o) ≠ 0) && (wI (sel ps o)).all (fun x => decide (0 < x)) && decide (Ahead ps (nI (sel ps o)) (dI (sel ps o)))) = true) : Ends ps o := by
  simp only [Bool.and_eq_true, decide_eq_true_eq, List.all_eq_true] at h
  obtain ⟨⟨⟨⟨⟨⟨h1, h2⟩, h3⟩, h4⟩, h5⟩, h6⟩, h7⟩ := h
  exact ⟨⟨h1, h2, ⟨by simpa [sel] using h3, by simpa [sel] using h4, AI_of (by simpa [sel] using h3) (by simpa [sel] using h4) h5, h6⟩⟩, h7⟩
def awA : List Pt := [⟨2, -9, 0⟩, ⟨2, 9, 0⟩, ⟨5, 0, 0⟩, ⟨9, 1, 1⟩]
def boxI (i : Int) : Pt := ⟨i % 2 * 2, i / 2 % 2 * 2, i / 4 * 2⟩
def boxTo : Nat → List Pt
  | 0 => []
  | k + 1 => boxTo k ++ [boxI k]
theorem boxTo_len : ∀ k, (boxTo k).length = k
  | 0 => rfl
  | k + 1 => by simp [boxTo, boxTo_len k]
def awB : List Pt := boxTo 8
theorem awA_ends : Ends awA [0, 1] := ends_of (by decide +kernel)
theorem awA_n : (nrOf (sel awA [0, 1])).n = ⟨2, 0, 0⟩ ∧ (nrOf (sel awA [0, 1])).d = 1 := by decide +kernel
theorem aw1_ends : Ends (dif awB [⟨1, 1, 1⟩]) [0, 7] := ends_of (by decide +kernel)
theorem aw1_n : (nrOf (sel (dif awB [⟨1, 1, 1⟩]) [0, 7])).n = ⟨0, 0, 0⟩ := by decide +kernel
theorem aw3_ends : Ends (dif awB [⟨3, 3, 3⟩]) [7] := ends_of (by decide +kernel)
theorem aw3_n : ¬ (nrOf (sel (dif awB [⟨3, 3, 3⟩]) [7])).n = ⟨0, 0, 0⟩ := by decide +kernel
theorem awA_err : errG awA = 0 := by decide +kernel
theorem aw1_err : errL awB [⟨1, 1, 1⟩] = 0 := by decide +kernel
theorem aw3_err : errL awB [⟨3, 3, 3⟩] = 0 := by decide +kernel
/-- What box hands back. -/
def XB (v : Value) (Ln : HL) : Prop := ∃ g cur cap, v = .slice (some ⟨g, 0, none⟩) 8 cap ∧ Ln = [(67, (g, .cells cur.toArray 47 (0, 0)))] ∧ SV.ok 3 (some (g, cur, cap)) (awB.map Pt.l)
theorem law_box (w : World) : Calls Tryz.prog 21 #[.int .i64 0, .int .i64 2] w fun e w' => ∃ v Ln, e = .returned v ∧ XB v Ln ∧ St w [] w' Ln := by
  refine calls_of Tryz.func21 rfl Tryz.ntmps21 rfl (St.start w) (args := [.int .i64 0, .int .i64 2]) ?_
  refine cw_sr ?_
  refine steps_q rfl (q_assign rfl) ?_  -- law.go:12
  refine steps_nil ?_
  refine cw_sr ?_
  refine steps_q rfl (q_assign rfl) ?_  -- law.go:13
  refine steps_nil ?_
  refine cw_sr ?_
  refine steps_q rfl (q_move rfl) ?_  -- law.go:14
  refine steps_q rfl (q_move rfl) ?_  -- law.go:14
  refine steps_q rfl (q_bin rfl rfl (sub64 (by omega) (by omega))) ?_  -- law.go:14
  refine steps_q rfl (q_assign rfl) ?_  -- law.go:14
  refine steps_nil ?_
  refine cw_seq ?_
  refine cw_sr ?_
  refine steps_q rfl (q_assign rfl) ?_  -- law.go:15
  refine steps_nil ?_
  refine cw_block ?_
  -- LOOP 1 writes [5, 7, 11, 12, 13, 14, 15, 16, 17, 18, 19, 20, 21, 22, 23, 24, 25, 26, 27, 28, 29, 30, 31, 32, 33, 34, 35, 36, 37]  stores via []  reads [0, 6]
  refine cw_loop (S := Nat × SV) (fun s => [(0, .int .i64 0), (5, s.2.v s.1), (6, .int .i64 2), (7, .int .i64 s.1)]) (fun s => s.2.l 67 47) (fun s => s.1 ≤ 8 ∧ s.2.ok 3 ((boxTo s.1).map Pt.l)) (fun s => 8 - s.1) (0, none) ⟨by dsimp only; omega, by simp [SV.ok, boxTo]⟩ (subs ⟨rfl, rfl, rfl, rfl, trivial⟩) (subs trivial) ?_
  rintro ⟨k, sv⟩ ⟨k1, hsv⟩
  dsimp only at k1 hsv
  conv => enter [7]; dsimp only
  conv => enter [8]; dsimp only
  have hkl : ((boxTo k).map Pt.l).length = k := by rw [List.length_map, boxTo_len]
  refine cw_seq ?_
  refine cw_sr ?_
  refine steps_q rfl (q_move rfl) ?_  -- law.go:15
  refine steps_q rfl (q_bin rfl rfl rfl) ?_  -- law.go:15
  refine steps_nil ?_
  refine cw_cond _ rfl (fun hc1 => ?_) (fun hc1 => ?_)
  · -- yes 1
    have hk : (k : Int) < 8 := of_decide_eq_true hc1
    refine cw_skip ?_
    refine at_then ?_
    refine cw_seq ?_
    refine cw_block ?_
    rcases sv with _ | ⟨g1, cur1, cap1⟩
    · -- way 6.a
      refine cw_region ?_
      refine steps_q rfl (q_move rfl) ?_  -- law.go:16
      refine steps_q rfl (q_move rfl) ?_  -- law.go:16
      refine steps_q rfl (q_move rfl) ?_  -- law.go:16
      refine steps_q rfl (q_bin rfl rfl (rem64 (by omega) (by omega) (by omega))) ?_  -- law.go:16
      refine steps_q rfl (q_move rfl) ?_  -- law.go:16
      refine steps_q rfl (q_bin rfl rfl (mul64 (by omega) (by omega))) ?_  -- law.go:16
      refine steps_q rfl (q_bin rfl rfl (add64 (by omega) (by omega))) ?_  -- law.go:16
      refine steps_q rfl (q_move rfl) ?_  -- law.go:16
      refine steps_q rfl (q_move rfl) ?_  -- law.go:16
      refine steps_q rfl (q_bin rfl rfl (quo64 (by omega) (by omega) (by omega))) ?_  -- law.go:16
      refine steps_q rfl (q_bin rfl rfl (rem64 (by omega) (by omega) (by omega))) ?_  -- law.go:16
      refine steps_q rfl (q_move rfl) ?_  -- law.go:16
      refine steps_q rfl (q_bin rfl rfl (mul64 (by omega) (by omega))) ?_  -- law.go:16
      refine steps_q rfl (q_bin rfl rfl (add64 (by omega) (by omega))) ?_  -- law.go:16
      refine steps_q rfl (q_move rfl) ?_  -- law.go:16
      refine steps_q rfl (q_move rfl) ?_  -- law.go:16
      refine steps_q rfl (q_bin rfl rfl (quo64 (by omega) (by omega) (by omega))) ?_  -- law.go:16
      refine steps_q rfl (q_move rfl) ?_  -- law.go:16
      refine steps_q rfl (q_bin rfl rfl (mul64 (by omega) (by omega))) ?_  -- law.go:16
      refine steps_q rfl (q_bin rfl rfl (add64 (by omega) (by omega))) ?_  -- law.go:16
      rw [show (0 : Int) + k % 2 * 2 = (boxI k).x by simp [boxI], show (0 : Int) + k / 2 % 2 * 2 = (boxI k).y by simp [boxI], show (0 : Int) + k / 4 * 2 = (boxI k).z by simp [boxI]]
      refine steps_q rfl (q_build (vs := [(0, _), (1, _), (2, _)]) rfl rfl (bldP (boxI k))) ?_  -- law.go:16
      refine steps_s (s_buildSl 36 rfl rfl rfl (bslP (boxI k)) fun b36 => ?_)  -- law.go:16
      refine steps_s (s_appendN 67 36 none k ((boxTo k).map Pt.l) (boxI k).l hkl elt22 rfl rfl hsv (subs trivial) rfl rfl rfl rfl (by omega) (by unfold maxLen; omega) fun g1 cur1 cap1 hk1 => ?_)  -- law.go:16
      refine steps_q rfl (q_assign rfl) ?_  -- law.go:16
      refine steps_nil ?_
      refine at_then ?_
      refine cw_region ?_
      refine steps_q rfl (q_move rfl) ?_  -- law.go:15
      refine steps_q rfl (q_bin rfl rfl (add64 (by omega) (by omega))) ?_  -- law.go:15
      refine steps_q rfl (q_assign rfl) ?_  -- law.go:15
      refine steps_nil ?_
      exact at_round (k + 1, some (g1, cur1, cap1)) ⟨by dsimp only; omega, by dsimp only; rw [boxTo, List.map_append]; exact hk1⟩ (by dsimp only; omega) (subs ⟨rfl, rfl, rfl, by dsimp only; rw [show ((k + 1 : Nat) : Int) = k + 1 by omega]; rfl, trivial⟩) (subs ⟨rfl, trivial⟩)
    · -- way 6.b
      refine cw_region ?_
      refine steps_q rfl (q_move rfl) ?_  -- law.go:16
      refine steps_q rfl (q_move rfl) ?_  -- law.go:16
      refine steps_q rfl (q_move rfl) ?_  -- law.go:16
      refine steps_q rfl (q_bin rfl rfl (rem64 (by omega) (by omega) (by omega))) ?_  -- law.go:16
      refine steps_q rfl (q_move rfl) ?_  -- law.go:16
      refine steps_q rfl (q_bin rfl rfl (mul64 (by omega) (by omega))) ?_  -- law.go:16
      refine steps_q rfl (q_bin rfl rfl (add64 (by omega) (by omega))) ?_  -- law.go:16
      refine steps_q rfl (q_move rfl) ?_  -- law.go:16
      refine steps_q rfl (q_move rfl) ?_  -- law.go:16
      refine steps_q rfl (q_bin rfl rfl (quo64 (by omega) (by omega) (by omega))) ?_  -- law.go:16
      refine steps_q rfl (q_bin rfl rfl (rem64 (by omega) (by omega) (by omega))) ?_  -- law.go:16
      refine steps_q rfl (q_move rfl) ?_  -- law.go:16
      refine steps_q rfl (q_bin rfl rfl (mul64 (by omega) (by omega))) ?_  -- law.go:16
      refine steps_q rfl (q_bin rfl rfl (add64 (by omega) (by omega))) ?_  -- law.go:16
      refine steps_q rfl (q_move rfl) ?_  -- law.go:16
      refine steps_q rfl (q_move rfl) ?_  -- law.go:16
      refine steps_q rfl (q_bin rfl rfl (quo64 (by omega) (by omega) (by omega))) ?_  -- law.go:16
      refine steps_q rfl (q_move rfl) ?_  -- law.go:16
      refine steps_q rfl (q_bin rfl rfl (mul64 (by omega) (by omega))) ?_  -- law.go:16
      refine steps_q rfl (q_bin rfl rfl (add64 (by omega) (by omega))) ?_  -- law.go:16
      rw [show (0 : Int) + k % 2 * 2 = (boxI k).x by simp [boxI], show (0 : Int) + k / 2 % 2 * 2 = (boxI k).y by simp [boxI], show (0 : Int) + k / 4 * 2 = (boxI k).z by simp [boxI]]
      refine steps_q rfl (q_build (vs := [(0, _), (1, _), (2, _)]) rfl rfl (bldP (boxI k))) ?_  -- law.go:16
      refine steps_s (s_buildSl 36 rfl rfl rfl (bslP (boxI k)) fun b36 => ?_)  -- law.go:16
      refine steps_s (s_appendN 67 36 (some (g1, cur1, cap1)) k ((boxTo k).map Pt.l) (boxI k).l hkl elt22 rfl rfl hsv (subs ⟨rfl, trivial⟩) rfl rfl rfl rfl (by omega) (by unfold maxLen; omega) fun g1 cur1 cap1 hk1 => ?_)  -- law.go:16
      refine steps_q rfl (q_assign rfl) ?_  -- law.go:16
      refine steps_nil ?_
      refine at_then ?_
      refine cw_region ?_
      refine steps_q rfl (q_move rfl) ?_  -- law.go:15
      refine steps_q rfl (q_bin rfl rfl (add64 (by omega) (by omega))) ?_  -- law.go:15
      refine steps_q rfl (q_assign rfl) ?_  -- law.go:15
      refine steps_nil ?_
      exact at_round (k + 1, some (g1, cur1, cap1)) ⟨by dsimp only; omega, by dsimp only; rw [boxTo, List.map_append]; exact hk1⟩ (by dsimp only; omega) (subs ⟨rfl, rfl, rfl, by dsimp only; rw [show ((k + 1 : Nat) : Int) = k + 1 by omega]; rfl, trivial⟩) (subs ⟨rfl, trivial⟩)
  · -- no 1
    have hk : ¬ (k : Int) < 8 := of_decide_eq_false hc1
    obtain rfl : k = 8 := by omega
    rcases sv with _ | ⟨g1, cur1, cap1⟩
    · exfalso
      have := SV.len0 hsv
      omega
    refine cw_exit ?_
    refine at_then ?_
    refine cw_sr ?_
    refine steps_q rfl (q_move rfl) ?_  -- law.go:18
    refine steps_q rfl (q_assign rfl) ?_  -- law.go:18
    refine steps_nil ?_
    refine cw_ret ?_
    exact ret_st rfl (rv_tmp rfl rv_nil) rfl ⟨g1, cur1, cap1, rfl, rfl, hsv⟩ fun w' hw => hw.weaken (subs ⟨rfl, trivial⟩)
theorem bldP2 (x y : Int) : ∀ w, (Instr.build 47 [(0, Value.int .i64 x), (1, Value.int .i64 y)].toArray).run Tryz.prog w = .ok (.agg (Pt.l ⟨x, y, 0⟩).toArray) w := fun w => by kernel_rfl
theorem bldP1 (x : Int) : ∀ w, (Instr.build 47 [(0, Value.int .i64 x)].toArray).run Tryz.prog w = .ok (.agg (Pt.l ⟨x, 0, 0⟩).toArray) w := fun w => by kernel_rfl
theorem bldS1 (x : Int) : ∀ w, (Instr.build 33 [(0, Value.agg (Wl x).toArray)].toArray).run Tryz.prog w = .ok (.agg (Sp.l ⟨x, 0, 0⟩).toArray) w := fun w => by kernel_rfl
theorem bslA : ∀ w, (Instr.buildSlice 22 4 [(0, Value.agg (Pt.l ⟨2, -9, 0⟩).toArray), (1, .agg (Pt.l ⟨2, 9, 0⟩).toArray), (2, .agg (Pt.l ⟨5, 0, 0⟩).toArray), (3, .agg (Pt.l ⟨9, 1, 1⟩).toArray)].toArray).run Tryz.prog w = .ok (.slice (some ⟨w.heap.size, 0, none⟩) 4 4) (w.alloc (.cells ((awA.map Pt.l).flatten).toArray 47)) := fun w => by kernel_rfl
theorem okP1 (p : Pt) (g : Nat) : SV.ok 3 (some (g, p.l, 1)) ([p].map Pt.l) := ⟨rfl, Nat.le_refl _, by unfold maxLen; omega, rfl, fun y hy => by simp at hy; subst hy; rfl⟩
theorem okAw (g : Nat) : SV.ok 3 (some (g, (awA.map Pt.l).flatten, 4)) (awA.map Pt.l) := ⟨rfl, Nat.le_refl _, by unfold maxLen; omega, rfl, fun y hy => by obtain ⟨p, _, rfl⟩ := List.mem_map.1 hy; rfl⟩
theorem sp2fits : (⟨2, 0, 0⟩ : Sp).fits := ⟨fits_small (n := 2) (by omega), fits_small (n := 0) (by omega), fits_small (n := 0) (by omega)⟩
theorem fits1 : Fits 1 := fits_small (by omega)
theorem nilPts (w : World) : PtsAt w (.slice none 0 0) [] := SlAt.nil w _ _ _ _

set_option maxHeartbeats 4000000 in
theorem law_awake : PureF Tryz.prog 6 [] (.bool true) := by
  refine pure_of Tryz.func6 rfl Tryz.ntmps6 rfl fun w => ?_
  refine cw_sr ?_
  refine steps_q rfl (q_assign rfl) ?_  -- law.go:22
  refine steps_nil ?_
  refine cw_sr ?_
  refine steps_q rfl (q_build (vs := [(0, _), (1, _)]) rfl rfl (bldP2 2 (-9))) ?_  -- law.go:23
  refine steps_q rfl (q_build (vs := [(0, _), (1, _)]) rfl rfl (bldP2 2 9)) ?_  -- law.go:23
  refine steps_q rfl (q_build (vs := [(0, _)]) rfl rfl (bldP1 5)) ?_  -- law.go:23
  refine steps_q rfl (q_build (vs := [(0, _), (1, _), (2, _)]) rfl rfl (bldP ⟨9, 1, 1⟩)) ?_  -- law.go:23
  refine steps_s (s_buildSl 14 (vs := [(0, _), (1, _), (2, _), (3, _)]) rfl rfl rfl bslA fun b14 => ?_)  -- law.go:23
  refine steps_s (s_callSt ent13 rfl rfl rfl (R := GN awA) (fun w' hw => by have h0 : PtsAt w' (.slice (some ⟨b14, 0, none⟩) 4 4) awA := SlAt.own (q := some (b14, (awA.map Pt.l).flatten, 4)) (i := 14) (e := 47) (s := 3) (xs := awA.map Pt.l) hw (subs ⟨rfl, trivial⟩) (okAw b14); simpa using gjk_Near_ok w' h0 awA_err) fun v Ln hZ => ?_)  -- law.go:23
  obtain ⟨own, g, cur, cap, hE, rfl, rfl, hsv⟩ := hZ
  have e := ends_unique hE awA_ends
  rw [e, awA_n.1, awA_n.2]
  clear hE e
  refine steps_q rfl (q_move rfl) ?_  -- law.go:23
  refine steps_q rfl (q_extract rfl rfl) ?_  -- law.go:23
  refine steps_q rfl (q_extract rfl rfl) ?_  -- law.go:23
  refine steps_s (s_allocA 1 rfl zer36 fun b1 => ?_)  -- law.go:23
  refine steps_s (s_storeW 1 siz36 rfl rfl rfl rfl rfl rfl ?_)  -- law.go:23
  refine steps_q rfl (q_assign rfl) ?_  -- law.go:23
  refine steps_nil ?_
  refine cw_sr ?_
  refine steps_s (s_callSt ent21 rfl rfl rfl (R := XB) (fun w' hw => by simpa using law_box w') fun v Ln hZ => ?_)  -- law.go:24
  obtain ⟨g1, cur1, cap1, rfl, rfl, hsv1⟩ := hZ
  refine steps_q rfl (q_build (vs := [(0, _), (1, _), (2, _)]) rfl rfl (bldP ⟨1, 1, 1⟩)) ?_  -- law.go:24
  refine steps_s (s_buildSl 21 rfl rfl rfl (bslP ⟨1, 1, 1⟩) fun b21 => ?_)  -- law.go:24
  refine steps_s (s_callSt ent11 rfl rfl rfl (R := MK (dif awB [⟨1, 1, 1⟩])) (fun w' hw => by have h0 : PtsAt w' (.slice (some ⟨g1, 0, none⟩) 8 cap1) awB := SlAt.own (q := some (g1, cur1, cap1)) (i := 67) (e := 47) (s := 3) hw (subs ⟨rfl, trivial⟩) hsv1; have h2 : PtsAt w' (.slice (some ⟨b21, 0, none⟩) 1 1) [⟨1, 1, 1⟩] := SlAt.own (q := some (b21, Pt.l ⟨1, 1, 1⟩, 1)) (i := 21) (e := 47) (s := 3) hw (subs ⟨rfl, trivial⟩) (okP1 _ _); simpa using gjk_Meets_ok w' h0 h2 (by decide) (by decide) aw1_err) fun v Ln hZ => ?_)  -- law.go:24
  obtain ⟨own1, hE1, rfl, rfl⟩ := hZ
  rw [ends_unique hE1 aw1_ends, decide_eq_true aw1_n]
  clear hE1
  refine steps_q rfl (q_move rfl) ?_  -- law.go:24
  refine steps_q rfl (q_extract rfl rfl) ?_  -- law.go:24
  refine steps_q rfl (q_extract rfl rfl) ?_  -- law.go:24
  refine steps_q rfl (q_assign rfl) ?_  -- law.go:24
  refine steps_q rfl (q_assign rfl) ?_  -- law.go:24
  refine steps_nil ?_
  refine cw_sr ?_
  refine steps_s (s_callSt ent21 rfl rfl rfl (R := XB) (fun w' hw => by simpa using law_box w') fun v Ln hZ => ?_)  -- law.go:25
  obtain ⟨g3, cur3, cap3, rfl, rfl, hsv3⟩ := hZ
  refine steps_q rfl (q_build (vs := [(0, _), (1, _), (2, _)]) rfl rfl (bldP ⟨3, 3, 3⟩)) ?_  -- law.go:25
  refine steps_s (s_buildSl 28 rfl rfl rfl (bslP ⟨3, 3, 3⟩) fun b28 => ?_)  -- law.go:25
  refine steps_s (s_callSt ent11 rfl rfl rfl (R := MK (dif awB [⟨3, 3, 3⟩])) (fun w' hw => by have h0 : PtsAt w' (.slice (some ⟨g3, 0, none⟩) 8 cap3) awB := SlAt.own (q := some (g3, cur3, cap3)) (i := 67) (e := 47) (s := 3) hw (subs ⟨rfl, trivial⟩) hsv3; have h2 : PtsAt w' (.slice (some ⟨b28, 0, none⟩) 1 1) [⟨3, 3, 3⟩] := SlAt.own (q := some (b28, Pt.l ⟨3, 3, 3⟩, 1)) (i := 28) (e := 47) (s := 3) hw (subs ⟨rfl, trivial⟩) (okP1 _ _); simpa using gjk_Meets_ok w' h0 h2 (by decide) (by decide) aw3_err) fun v Ln hZ => ?_)  -- law.go:25
  obtain ⟨own3, hE3, rfl, rfl⟩ := hZ
  rw [ends_unique hE3 aw3_ends, decide_eq_false aw3_n]
  clear hE3
  refine steps_q rfl (q_move rfl) ?_  -- law.go:25
  refine steps_q rfl (q_extract rfl rfl) ?_  -- law.go:25
  refine steps_q rfl (q_extract rfl rfl) ?_  -- law.go:25
  refine steps_q rfl (q_assign rfl) ?_  -- law.go:25
  refine steps_q rfl (q_assign rfl) ?_  -- law.go:25
  refine steps_nil ?_
  refine cw_sr ?_
  refine steps_q rfl (q_call ent13 rfl rfl (fun w' hw => by simpa using gjk_Near_bad w' (nilPts w') (by simp) (show errG [] ≠ 0 by decide))) ?_  -- law.go:26
  refine steps_q rfl (q_move rfl) ?_  -- law.go:26
  refine steps_q rfl (q_extract rfl rfl) ?_  -- law.go:26
  refine steps_q rfl (q_extract rfl rfl) ?_  -- law.go:26
  refine steps_s (s_allocA 7 rfl zer36 fun b7 => ?_)  -- law.go:26
  refine steps_s (s_storeW 7 siz36 rfl rfl rfl rfl rfl rfl ?_)  -- law.go:26
  refine steps_q rfl (q_assign rfl) ?_  -- law.go:26
  refine steps_nil ?_
  refine cw_sd mixed [0, 1, 2, 3, 4, 5, 6, 7, 8, 9, 10, 11, 12, 13, 14, 15, 16, 17, 18, 19, 20, 21, 22, 23, 24, 25, 26, 27, 28, 29, 30, 31, 32, 33, 34] 0 _ (by kernel_rfl) (SubL.refl _) ?_
  refine qi_q rfl rfl (q_move rfl) ?_  -- law.go:27
  refine qi_q rfl rfl (q_bin rfl rfl rfl) ?_  -- law.go:27
  refine qi_q rfl rfl (q_move rfl) ?_  -- law.go:27
  refine qi_gq rfl rfl rfl rfl (q_field fld36_0 rfl) ?_  -- law.go:27
  refine qi_gq rfl rfl rfl rfl (q_loadA 1 agg33 rfl rfl (nr0 _)) ?_  -- law.go:27
  refine qi_gq rfl rfl rfl rfl (q_pure ent22 rfl (wide_Of 2 (by omega))) ?_  -- law.go:27
  refine qi_gq rfl rfl rfl rfl (q_build (vs := [(0, _)]) rfl rfl (bldS1 2)) ?_  -- law.go:27
  refine qi_gq rfl rfl rfl rfl (q_aeql rfl rfl (eqlS sp2fits sp2fits)) ?_  -- law.go:27
  refine qi_q rfl rfl (q_pick_t rfl rfl) ?_  -- law.go:27
  refine qi_q rfl rfl (q_move rfl) ?_  -- law.go:27
  refine qi_gq rfl rfl rfl rfl (q_field fld36_1 rfl) ?_  -- law.go:27
  refine qi_gq rfl rfl rfl rfl (q_loadA 1 agg31 rfl rfl (nr1 _)) ?_  -- law.go:27
  refine qi_gq rfl rfl rfl rfl (q_pure ent22 rfl (wide_Of 1 (by omega))) ?_  -- law.go:27
  refine qi_gq rfl rfl rfl rfl (q_aeql rfl rfl (eqlW fits1 fits1)) ?_  -- law.go:27
  refine qi_q rfl rfl (q_pick_t rfl rfl) ?_  -- law.go:27
  refine qi_q rfl rfl (q_move rfl) ?_  -- law.go:27
  refine qi_gq rfl rfl rfl rfl (q_move rfl) ?_  -- law.go:27
  refine qi_q rfl rfl (q_pick_t rfl rfl) ?_  -- law.go:27
  refine qi_q rfl rfl (q_move rfl) ?_  -- law.go:27
  refine qi_gq rfl rfl rfl rfl (q_move rfl) ?_  -- law.go:27
  refine qi_gq rfl rfl rfl rfl (q_bin rfl rfl rfl) ?_  -- law.go:27
  refine qi_q rfl rfl (q_pick_t rfl rfl) ?_  -- law.go:27
  refine qi_q rfl rfl (q_move rfl) ?_  -- law.go:27
  refine qi_gq rfl rfl rfl rfl (q_move rfl) ?_  -- law.go:27
  refine qi_gq rfl rfl rfl rfl (q_not rfl rfl) ?_  -- law.go:27
  refine qi_q rfl rfl (q_pick_t rfl rfl) ?_  -- law.go:27
  refine qi_q rfl rfl (q_move rfl) ?_  -- law.go:27
  refine qi_gq rfl rfl rfl rfl (q_move rfl) ?_  -- law.go:27
  refine qi_gq rfl rfl rfl rfl (q_bin rfl rfl rfl) ?_  -- law.go:27
  refine qi_q rfl rfl (q_pick_t rfl rfl) ?_  -- law.go:27
  refine qi_q rfl rfl (q_move rfl) ?_  -- law.go:27
  refine qi_gq rfl rfl rfl rfl (q_move rfl) ?_  -- law.go:27
  refine qi_gq rfl rfl rfl rfl (q_bin rfl rfl rfl) ?_  -- law.go:27
  refine qi_q rfl rfl (q_pick_t rfl rfl) ?_  -- law.go:27
  refine qi_q rfl rfl (q_assign rfl) ?_  -- law.go:27
  refine qi_nil ?_
  refine tail_nil (by kernel_rfl) ?_
  refine cw_ret ?_
  exact ret_pure rfl (rv_tmp rfl rv_nil) rfl
end Go.Proofs.YtomdahjakkifbaaGreat

/-
  What the laws on the nearest point lean on: it is the only one, and with a point past it there is a nearer one.
-/
namespace Go.Proofs.YtomdahjakkifbaaGreat
open Go Go.NP Go.RowKit Go.Proofs
set_option maxRecDepth 100000

theorem same_self (a b : Nr) (h1 : a.n = b.n) (h2 : a.d = b.d) : sameB a b = true := by unfold sameB; simp [h1, h2]
theorem fitsD {d : Int} (h : 1 ≤ d ∧ d ≤ Mid) : Fits d := fits_big (bd_big (k := Mid) (by omega) (by decide))


/-- Two that are the same. -/
theorem law_same_nr {m1 m2 : Nr} {s1 s2 : Value} (h : m1 = m2) (hf : m1.n.In Mid ∧ 1 ≤ m1.d ∧ m1.d ≤ Mid) : PureF Tryz.prog 12 [.agg (Nr.l ⟨m1.n, m1.d, s1⟩).toArray, .agg (Nr.l ⟨m2.n, m2.d, s2⟩).toArray] (.bool true) := by
  subst h
  have := law_same (a := ⟨m1.n, m1.d, s1⟩) (b := ⟨m1.n, m1.d, s2⟩) (in_fits hf.1) (in_fits hf.1) (fitsD hf.2) (fitsD hf.2)
  rwa [same_self ⟨m1.n, m1.d, s1⟩ ⟨m1.n, m1.d, s2⟩ rfl rfl] at this

/-! ## The nearest one is the only one; with a point past it, a nearer one -/
theorem nr_same {ps qs : List Pt} {o o2 : List Int} (h : Ends ps o) (h2 : Ends qs o2) (hin : ∀ p ∈ ps, p ∈ qs) (ha : Ahead qs (nI (sel ps o)) (dI (sel ps o))) : nrOf (sel ps o) = nrOf (sel qs o2) := by
  have g1 := h.1.good
  have g2 := h2.1.good
  refine nrSum_eq (same_of_ahead g1 g2 (fun q hq => ?_) (fun q hq => ?_)) (by have := g1.dpos; omega) (by have := g2.dpos; omega)
  · obtain ⟨k, hk, rfl⟩ := List.mem_map.1 hq
    have := h2.1.at' k hk
    exact ha _ (List.mem_of_getElem? (ptI_get this.1 this.2))
  · obtain ⟨k, hk, rfl⟩ := List.mem_map.1 hq
    have := h.1.at' k hk
    exact h2.2 _ (hin _ (List.mem_of_getElem? (ptI_get this.1 this.2)))
theorem nr_nearer {ps qs : List Pt} {o o2 : List Int} {p : Pt} (h : Ends ps o) (h2 : Ends qs o2) (hin : ∀ p ∈ ps, p ∈ qs) (hp : p ∈ qs) (hlt : dotS (nI (sel ps o)) p * dI (sel ps o) < sqS (nI (sel ps o))) :
    sqS (nrOf (sel qs o2)).n * ((nrOf (sel ps o)).d * (nrOf (sel ps o)).d) < sqS (nrOf (sel ps o)).n * ((nrOf (sel qs o2)).d * (nrOf (sel qs o2)).d) := by
  have g1 := h.1.good
  have g2 := h2.1.good
  have d1 := g1.dpos
  have d2 := g2.dpos
  obtain ⟨u, u1, u2, u3, u4⟩ := between g1 hlt
  have hA : Ahead (p :: sel ps o) (nI (sel qs o2)) (dI (sel qs o2)) := fun q hq => by
    rcases List.mem_cons.1 hq with rfl | hq
    · exact h2.2 _ hp
    · obtain ⟨k, hk, rfl⟩ := List.mem_map.1 hq
      have := h.1.at' k hk
      exact h2.2 _ (hin _ (List.mem_of_getElem? (ptI_get this.1 this.2)))
  have hm := ahead_min d2 hA u1 u2
  have key := flt_trans (Int.mul_pos u3 u3) (Int.mul_pos d2 d2) (Int.le_of_lt (Int.mul_pos d1 d1)) hm u4
  have s1 := (nrSum_same (nI (sel ps o)) (dI (sel ps o))).sq
  have s2 := (nrSum_same (nI (sel qs o2)) (dI (sel qs o2))).sq
  have e1 := nrSum_pos (N := nI (sel ps o)) (d := dI (sel ps o)) (by omega)
  have e2 := nrSum_pos (N := nI (sel qs o2)) (d := dI (sel qs o2)) (by omega)
  change sqS (nrSum (nI (sel qs o2)) (dI (sel qs o2))).n * ((nrSum (nI (sel ps o)) (dI (sel ps o))).d * (nrSum (nI (sel ps o)) (dI (sel ps o))).d) < sqS (nrSum (nI (sel ps o)) (dI (sel ps o))).n * ((nrSum (nI (sel qs o2)) (dI (sel qs o2))).d * (nrSum (nI (sel qs o2)) (dI (sel qs o2))).d)
  generalize nrSum (nI (sel ps o)) (dI (sel ps o)) = M1 at *
  generalize nrSum (nI (sel qs o2)) (dI (sel qs o2)) = M2 at *
  generalize dI (sel ps o) = a at *
  generalize dI (sel qs o2) = b at *
  generalize sqS (nI (sel ps o)) = x at *
  generalize sqS (nI (sel qs o2)) = y at *
  generalize sqS M1.n = z at *
  generalize sqS M2.n = t at *
  generalize M1.d = e at *
  generalize M2.d = f at *
  have hk := Int.mul_lt_mul_of_pos_left key (Int.mul_pos (Int.mul_pos (show 0 < e by omega) (show 0 < e by omega)) (Int.mul_pos (show 0 < f by omega) (show 0 < f by omega)))
  have r1 : e * e * (f * f) * (y * (a * a)) = (a * a) * (b * b) * (t * (e * e)) := by
    have : e * e * (f * f) * (y * (a * a)) = e * e * (a * a) * (f * f * y) := by grind
    rw [this, s2]; grind
  have r2 : e * e * (f * f) * (x * (b * b)) = (a * a) * (b * b) * (z * (f * f)) := by
    have : e * e * (f * f) * (x * (b * b)) = f * f * (b * b) * (e * e * x) := by grind
    rw [this, s1]; grind
  rw [r1, r2] at hk
  exact Int.lt_of_mul_lt_mul_left hk (Int.le_of_lt (Int.mul_pos (Int.mul_pos d1 d1) (Int.mul_pos d2 d2)))
theorem errG_more {ps : List Pt} {p : Pt} (he : errG ps = 0) (hl : ps.length ≤ 40) (hp : p.In 268435456) : errG (ps ++ [p]) = 0 := by
  obtain ⟨h1, h2, h3⟩ := errG_ok.1 he
  refine errG_ok.2 ⟨fun q hq => ?_, by simp, by simp; omega⟩
  rcases List.mem_append.1 hq with h | h
  · exact h1 q h
  · rw [List.mem_singleton.1 h]; exact hp

section
variable {w0 : World} {M : List Nat} {N : Nat} {D : Dfr} {T : TL} {L : HL}
/-- A call of Near where it finds. -/
theorem s_near {ps : List Pt} {d : Nat} {x : Operand} {args : Array Operand} {ts : Array TypeId} {u : Value} {t : TypeId} {p : String} {af : Array Edge} {g : Option (Nat × Bool)} {K : TL → HL → Prop} {Q : Exit → Act → World → Prop}
    (he : errG ps = 0) (hN : Nat.blt d N = true) (hx : ev T x = some (.func (.func 13) #[] #[])) (hv : evs T args.toList = some [u])
    (h : ∀ w, St w0 M w L → PtsAt w u ps)
    (k : ∀ own g cur cap, Ends ps own → SV.ok 1 (some (g, cur, cap)) (own.map intC) → K ((d, .tuple #[.agg (Nr.l ⟨(nrOf (sel ps own)).n, (nrOf (sel ps own)).d, .slice (some ⟨g, 0, none⟩) own.length cap⟩).toArray, .int .i64 0]) :: T) ((63, (g, .cells cur.toArray 3 (0, 0))) :: L)) :
    Step Tryz.prog w0 M N D { dst := some d, op := .call { callee := .value x, args := args, argTypes := ts }, type := t, pos := p, after := af, guard := g } T L K Q :=
  s_callSt ent13 hN hx hv (R := GN ps) (fun w' hw => by simpa using gjk_Near_ok w' (h w' hw) he) fun v Ln ⟨own, g, cur, cap, hE, h1, h2, h3⟩ => by
    subst h1 h2
    exact k own g cur cap hE h3
end
theorem more_ahead {ps : List Pt} {p : Pt} {own : List Int} (hE : Ends ps own) (hn : pastB (nrOf (sel ps own)).n (nrOf (sel ps own)).d p = false) : Ahead (ps ++ [p]) (nI (sel ps own)) (dI (sel ps own)) := by
  have hd : 1 ≤ dI (sel ps own) := by have := hE.1.good.dpos; omega
  refine (past_iff hd).1 fun q hq => ?_
  rcases List.mem_append.1 hq with h | h
  · exact (past_iff hd).2 hE.2 q h
  · rw [List.mem_singleton.1 h]; exact hn
theorem told_more {w0 w : World} {M : List Nat} {L : HL} {g cap n : Nat} {cur : List Value} {ps : List Pt} {p : Pt} (hw : St w0 M w L) (hl : Go.NP.look L 61 = some (g, .cells cur.toArray 47 (0, 0))) (hk : SV.ok 3 (some (g, cur, cap)) ([] ++ ps.map Pt.l ++ [p.l])) (hn : n = ps.length + 1) :
    PtsAt w (.slice (some ⟨g, 0, none⟩) n cap) (ps ++ [p]) := by
  have h := SlAt.own (q := some (g, cur, cap)) (i := 61) (e := 47) hw (subs ⟨hl, trivial⟩) hk
  have e : [] ++ ps.map Pt.l ++ [p.l] = (ps ++ [p]).map Pt.l := by simp
  rw [e] at h
  have e2 : ((ps ++ [p]).map Pt.l).length = n := by simp [hn]
  rwa [e2] at h

end Go.Proofs.YtomdahjakkifbaaGreat

/-
  From a walk that turns nothing old to a row: arguments read; behind the call they read as before.
-/
namespace Go.Proofs.YtomdahjakkifbaaGreat
open Go Go.NP Go.RowKit Go.Proofs Go.ChangeShapes Go.WideShapes Go.ChangeAt
set_option maxRecDepth 100000

theorem Tryz.own : ownKnob Tryz.prog.godebug = none := by kernel_rfl
theorem Tryz.laidOut : laidOutB Tryz.prog = true := by kernel_rfl
section
variable {H : Type} {enc : TypeId × Value → H} {P : Program}
theorem trodAll_below (hl : laidOutB P = true) {W W' : World} (hb : Below W.heap.size W W') : ∀ {ts : List TypeId} {vs : List Value} {ds : List (DataW H)} {ps : List MemPlace}, (∀ t ∈ ts, P.readableRec t = true ∧ t < P.types.size) →
    DataW.TrodAll enc P W 0 (fun _ => true) true ts vs ds ps → (∀ x ∈ ps, x.block < W.heap.size) → DataW.TrodAll enc P W' 0 (fun b => decide (b < W.heap.size)) true ts vs ds ps
  | [], [], [], ps, _, h, _ => h
  | t :: ts, v :: vs, d :: ds, ps, ht, ⟨p, q, h1, h2, h3⟩, hlt => by
    have hm := ht t (by simp)
    refine ⟨p, q, Below.trod hl hm.1 hm.2 h1 hb (fun x hx => hlt x (by rw [h3]; simp [hx])), trodAll_below hl hb (fun t' ht' => ht t' (by simp [ht'])) h2 (fun x hx => hlt x (by rw [h3]; simp [hx])), h3⟩
  | [], _ :: _, _, _, _, h, _ => h.elim
  | [], [], _ :: _, _, _, h, _ => h.elim
  | _ :: _, [], _, _, _, h, _ => h.elim
  | _ :: _, _ :: _, [], _, _, h, _ => h.elim
/-- Behind a call that turns nothing old, and answers true. -/
theorem law_post {f : Func} {s : ChangeSpec} {W W' : World} {args : Array Value} {ds : List (DataW H)} {before : List MemPlace} {tb : TypeId} (hl : laidOutB P = true) (hvars : s.vars = []) (hbt : P.underlying tb = some .bool) (hrt : f.resultTypes = #[tb])
    (hW : DataW.Whole enc P f.params.toList s.vars false W args.toList ds [] before) (hA : DataW.TrodAll enc P W 0 (fun _ => true) true f.params.toList args.toList ds before) (hp : ∀ t ∈ f.params.toList, P.readableRec t = true ∧ t < P.types.size)
    (hs : s.fn H (ds ++ []) = { results := [.lit (.bool true)], args := ds }) (hb : Below W.heap.size W W') : s.post enc P f false true false false W args (.bool true) W' := by
  refine ⟨ds, [], before, [], before, [], hW, ?_, ?_, ?_, hb.frame _, fun h => by cases h⟩
  · rw [hs, hrt]
    exact trodAll_mk1 (shut_bool hbt true)
  · rw [hs]
    exact trodAll_below hl hb hp hA fun x hx => by simpa using hW.lt x hx
  · rw [hs, hvars]; rfl
end

/-! ## Reading points -/
theorem open_pt {H : Type} {enc : TypeId × Value → H} {w : World} {base : Nat} {spare : Nat → Bool} {held : Bool} {fuel : Nat} {cs : List Value} {y : DataW H × List MemPlace}
    (h : DataW.trod enc Tryz.prog w base spare held fuel 47 cs = some y) : ∃ p : Pt, cs = p.l ∧ p.In 9223372036854775808 := by
  obtain ⟨xs, n, _, _, hlen, hxl, hf⟩ := DataW.trod_struct Tryz.underlying47 h
  have hc : Tryz.prog.cellsOf 47 = 3 := by kernel_rfl
  have hc1 : Tryz.prog.cellsOf 2 = 1 := by kernel_rfl
  rw [hc] at hlen
  obtain ⟨x, y, z, rfl⟩ : ∃ x y z, cs = [x, y, z] := by
    match cs, hlen with
    | [x, y, z], _ => exact ⟨x, y, z, rfl⟩
  obtain ⟨q0, q1, q2, rfl⟩ : ∃ q0 q1 q2, xs = [q0, q1, q2] := by
    match xs, hxl with
    | [x, y, z], _ => exact ⟨x, y, z, rfl⟩
  have e0 := hf 0 _ rfl
  have e1 := hf 1 _ rfl
  have e2 := hf 2 _ rfl
  change DataW.trod enc Tryz.prog w base spare held n 2 ((([x, y, z] : List Value).drop 0).take (Tryz.prog.cellsOf 2)) = _ at e0
  change DataW.trod enc Tryz.prog w base spare held n 2 ((([x, y, z] : List Value).drop 1).take (Tryz.prog.cellsOf 2)) = _ at e1
  change DataW.trod enc Tryz.prog w base spare held n 2 ((([x, y, z] : List Value).drop 2).take (Tryz.prog.cellsOf 2)) = _ at e2
  rw [hc1] at e0 e1 e2
  obtain ⟨a, ha, _, wa⟩ := DataW.trod_int Tryz.underlying2 e0
  obtain ⟨b, hb, _, wb⟩ := DataW.trod_int Tryz.underlying2 e1
  obtain ⟨c, hc', _, wc⟩ := DataW.trod_int Tryz.underlying2 e2
  simp at ha hb hc'
  subst ha hb hc'
  refine ⟨⟨a, b, c⟩, rfl, ?_⟩
  have k : ∀ {n : Int}, (Lit.int .i64 n).wf = true → -9223372036854775808 ≤ n ∧ n ≤ 9223372036854775808 := fun h => by
    simp [Lit.wf, IntKind.min, IntKind.max, IntKind.signed, IntKind.bits] at h
    omega
  exact ⟨k wa, k wb, k wc⟩
theorem open_pts {H : Type} {enc : TypeId × Value → H} {w : World} {base : Nat} {spare : Nat → Bool} {held : Bool} {v : Value} {d : DataW H} {ps : List MemPlace} (hv : ∃ a len cap, v = .slice a len cap)
    (h : DataW.Trod enc Tryz.prog w base spare held 22 v d ps) : ∃ l : List Pt, PtsAt w v l ∧ l.length ≤ 9223372036854775807 := by
  obtain ⟨a0, n0, c0, rfl⟩ := hv
  obtain ⟨fuel, h⟩ := h
  have hc : Tryz.prog.cellsOf 47 = 3 := by kernel_rfl
  rcases DataW.trod_slice Tryz.underlying22 h with ⟨hcs, _⟩ | ⟨a, len, cap, elems, rest, n, _, hcs, _, _, hle, hmax, hlen, hel, _, _⟩
  · simp [Value.cells] at hcs
    obtain ⟨rfl, rfl, rfl⟩ := hcs
    exact ⟨[], SlAt.nil w _ _ _ _, by simp⟩
  · simp [Value.cells] at hcs
    obtain ⟨rfl, rfl, rfl⟩ := hcs
    have each : ∀ i, i < n0 → ∃ p : Pt, ∀ j v, p.l[j]? = some v → w.cell? (a.add (i * 3 + j)) = some v := by
      intro i hi
      have h1 := hel i hi
      rw [hc, List.getElem?_eq_getElem (by omega), Option.bind_eq_some_iff] at h1
      obtain ⟨cs, hcs, hy⟩ := h1
      obtain ⟨p, rfl, _⟩ := open_pt hy
      obtain ⟨_, _, hcell⟩ := World.cells?_some hcs
      refine ⟨p, fun j v hj => ?_⟩
      have hj3 : j < 3 := (List.getElem?_eq_some_iff.1 hj).1
      have := hcell j hj3
      rw [hj] at this
      rw [← this]
      congr 1
      unfold Addr.add
      split <;> split <;> (try split) <;> simp_all <;> omega
    obtain ⟨l, hll, hlp⟩ : ∃ l : List Pt, l.length = n0 ∧ ∀ i p, l[i]? = some p → ∀ j v, p.l[j]? = some v → w.cell? (a.add (i * 3 + j)) = some v := by
      have key : ∀ m, m ≤ n0 → ∃ l : List Pt, l.length = m ∧ ∀ i p, l[i]? = some p → ∀ j v, p.l[j]? = some v → w.cell? (a.add (i * 3 + j)) = some v := by
        intro m
        induction m with
        | zero => exact fun _ => ⟨[], rfl, fun i p h => by simp at h⟩
        | succ m ih =>
          intro hm
          obtain ⟨l, h1, h2⟩ := ih (by omega)
          obtain ⟨p, hp⟩ := each m (by omega)
          refine ⟨l ++ [p], by simp [h1], fun i q hq => ?_⟩
          by_cases hi : i < l.length
          · rw [List.getElem?_append_left hi] at hq; exact h2 i q hq
          · have : i = m := by have := (List.getElem?_eq_some_iff.1 hq).1; simp at this; omega
            subst this
            rw [List.getElem?_append_right (by omega), h1] at hq
            simp at hq; subst hq; exact hp
      exact key n0 (Nat.le_refl _)
    refine ⟨l, ?_, by unfold maxLen at hmax; omega⟩
    have hvl : (Value.slice (some a) n0 c0) = .slice (some a) (l.map Pt.l).length c0 := by rw [List.length_map, hll]
    rw [hvl]
    by_cases hz : l = []
    · subst hz; exact ⟨_, _, rfl, .inl rfl⟩
    · refine ⟨_, _, rfl, .inr ?_⟩
      obtain ⟨p, r, rfl⟩ : ∃ p r, l = p :: r := by
        cases l with
        | nil => exact absurd rfl hz
        | cons p r => exact ⟨p, r, rfl⟩
      have hc0 := hlp 0 p rfl 0 _ rfl
      have hadd0 : a.add (0 * 3 + 0) = a := rfl
      rw [hadd0] at hc0
      obtain ⟨bb, off, spot⟩ := a
      obtain ⟨l0, e, fz, hheap, rfl⟩ : ∃ (l0 : List Value) (e : TypeId) (fz : Nat × Nat), w.heap[bb]? = some (.cells l0.toArray e fz) ∧ spot = none := by
        unfold World.cell? at hc0
        split at hc0
        · rename_i c e fz hh
          split at hc0
          · cases hc0
          · rename_i hsp
            exact ⟨c.toList, e, fz, by simpa using hh, by simpa using hsp⟩
        · cases hc0
      refine ⟨bb, off, l0, (e, fz), rfl, hheap, fun k x hx => ?_⟩
      rw [List.getElem?_map, Option.map_eq_some_iff] at hx
      obtain ⟨q, hq, rfl⟩ := hx
      have hq' := hlp k q hq
      have hcell : ∀ j v, q.l[j]? = some v → l0[off + k * 3 + j]? = some v := fun j v hj => by
        have := hq' j v hj
        rw [Addr.add_none] at this
        unfold World.cell? at this
        rw [hheap] at this
        simpa [Nat.add_assoc] using this
      have h0 := hcell 0 _ rfl
      have h1 := hcell 1 _ rfl
      have h2 := hcell 2 _ rfl
      refine ⟨?_, rfl⟩
      have hlen3 : off + k * 3 + 2 < l0.length := (List.getElem?_eq_some_iff.1 h2).1
      apply List.ext_getElem?
      intro j
      rw [List.getElem?_take, List.getElem?_drop]
      match j with
      | 0 => rw [if_pos (by omega)]; exact h0
      | 1 => rw [if_pos (by omega)]; exact h1
      | 2 => rw [if_pos (by omega)]; exact h2
      | j + 3 => rw [if_neg (by omega)]; rfl
/-- .. and their row is no shorter than they are. -/
theorem open_ptsC {H : Type} {enc : TypeId × Value → H} {w : World} {base : Nat} {spare : Nat → Bool} {held : Bool} {v : Value} {d : DataW H} {ps : List MemPlace} (hv : ∃ a len cap, v = .slice a len cap)
    (h : DataW.Trod enc Tryz.prog w base spare held 22 v d ps) : ∃ (l : List Pt) (a : Option Addr) (c : Nat), v = .slice a l.length c ∧ l.length ≤ c ∧ PtsAt w v l ∧ l.length ≤ 9223372036854775807 := by
  obtain ⟨l, h1, h2⟩ := open_pts hv h
  obtain ⟨a, c, rfl, hs⟩ := id h1
  obtain ⟨fuel, h⟩ := h
  rw [List.length_map] at h h1 ⊢
  refine ⟨l, a, c, rfl, ?_, h1, h2⟩
  rcases DataW.trod_slice Tryz.underlying22 h with ⟨hcs, _⟩ | ⟨a', len, cap, elems, rest, n, _, hcs, _, _, hle, hmax, hlen, hel, _, _⟩
  · simp [Value.cells] at hcs
    obtain ⟨_, h0, _⟩ := hcs
    simp [h0]
  · simp [Value.cells] at hcs
    obtain ⟨_, rfl, rfl⟩ := hcs
    exact hle
end Go.Proofs.YtomdahjakkifbaaGreat
