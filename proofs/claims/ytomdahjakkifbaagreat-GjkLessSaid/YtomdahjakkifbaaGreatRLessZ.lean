/-
  The differences of any two lists are the document's, or refused, and what is asked of two lists is asked of them: GjkLess answers true and leaves its arguments alone.
  No condition: every input.
-/
import Derived.Test.YtomdahjakkifbaaGreatPg

/-
  The walks of the document's answer, as far as GjkLess asks it: which points may be, what stands against points, the differences of two lists.
-/
namespace Go.Proofs.YtomdahjakkifbaaGreat
open Go Go.NP Go.RowKit Go.Proofs
set_option maxRecDepth 100000

theorem r06_may (n : Int) : PureF Tryz.prog 37 [.int .i64 n] (.bool (decide (-268435456 ≤ n ∧ n ≤ 268435456))) := by
  refine pure_of Tryz.func37 rfl Tryz.ntmps37 rfl fun w => ?_
  by_cases h : -268435456 ≤ n
  · rw [show decide (-268435456 ≤ n ∧ n ≤ 268435456) = decide (n ≤ 268435456) by simp [h]]
    refine cw_sr ?_
    refine steps_q rfl (q_assign rfl) ?_  -- ref.go:26
    refine steps_nil ?_
    refine cw_sr ?_
    refine steps_q rfl (q_move rfl) ?_  -- ref.go:26
    refine steps_q rfl (q_bin rfl rfl (geq_t h)) ?_  -- ref.go:26
    refine steps_q rfl (q_move rfl) ?_  -- ref.go:26
    refine steps_gq rfl rfl rfl (q_move rfl) ?_  -- ref.go:26
    refine steps_gq rfl rfl rfl (q_bin rfl rfl rfl) ?_  -- ref.go:26
    refine steps_q rfl (q_pick_t rfl rfl) ?_  -- ref.go:26
    refine steps_q rfl (q_assign rfl) ?_  -- ref.go:26
    refine steps_nil ?_
    refine cw_ret ?_
    exact ret_pure rfl (rv_tmp rfl rv_nil) rfl
  · rw [show decide (-268435456 ≤ n ∧ n ≤ 268435456) = false by simp [h]]
    refine cw_sr ?_
    refine steps_q rfl (q_assign rfl) ?_  -- ref.go:26
    refine steps_nil ?_
    refine cw_sr ?_
    refine steps_q rfl (q_move rfl) ?_  -- ref.go:26
    refine steps_q rfl (q_bin rfl rfl (geq_f h)) ?_  -- ref.go:26
    refine steps_q rfl (q_move rfl) ?_  -- ref.go:26
    refine steps_gn rfl rfl rfl rfl ?_  -- ref.go:26
    refine steps_gn rfl rfl rfl rfl ?_  -- ref.go:26
    refine steps_q rfl (q_pick_f rfl rfl) ?_  -- ref.go:26
    refine steps_q rfl (q_assign rfl) ?_  -- ref.go:26
    refine steps_nil ?_
    refine cw_ret ?_
    exact ret_pure rfl (rv_tmp rfl rv_nil) rfl
theorem may_in {n : Int} (h : -268435456 ≤ n ∧ n ≤ 268435456) : PureF Tryz.prog 37 [.int .i64 n] (.bool true) := by have := r06_may n; rwa [decide_eq_true h] at this
theorem may_out {n : Int} (h : ¬ (-268435456 ≤ n ∧ n ≤ 268435456)) : PureF Tryz.prog 37 [.int .i64 n] (.bool false) := by have := r06_may n; rwa [decide_eq_false h] at this
theorem r06_Check (p : Pt) : PureF Tryz.prog 26 [.agg p.l.toArray] (.int .i64 (errP p)) := by
  refine pure_of Tryz.func26 rfl Tryz.ntmps26 rfl fun w => ?_
  by_cases hx : -268435456 ≤ p.x ∧ p.x ≤ 268435456
  · by_cases hy : -268435456 ≤ p.y ∧ p.y ≤ 268435456
    · by_cases hz : -268435456 ≤ p.z ∧ p.z ≤ 268435456
      · rw [show errP p = 0 from if_pos ⟨hx, hy, hz⟩]
        refine cw_sr ?_
        refine steps_s (s_boxA 1 rfl rfl fun b1 => ?_)  -- ref.go:29
        refine steps_q rfl (q_assign rfl) ?_  -- ref.go:29
        refine steps_nil ?_
        refine cw_seq ?_
        refine cw_sr ?_
        refine steps_q rfl (q_field fld47_0 rfl) ?_  -- ref.go:30
        refine steps_q rfl (q_load1 1 one2 rfl rfl rfl) ?_  -- ref.go:30
        refine steps_q rfl (q_pure ent37 rfl (may_in hx)) ?_  -- ref.go:30
        refine steps_q rfl (q_not rfl rfl) ?_  -- ref.go:30
        refine steps_q rfl (q_move rfl) ?_  -- ref.go:30
        refine steps_gq rfl rfl rfl (q_field fld47_1 rfl) ?_  -- ref.go:30
        refine steps_gq rfl rfl rfl (q_load1 1 one2 rfl rfl rfl) ?_  -- ref.go:30
        refine steps_gq rfl rfl rfl (q_pure ent37 rfl (may_in hy)) ?_  -- ref.go:30
        refine steps_gq rfl rfl rfl (q_not rfl rfl) ?_  -- ref.go:30
        refine steps_q rfl (q_pick_f rfl rfl) ?_  -- ref.go:30
        refine steps_q rfl (q_move rfl) ?_  -- ref.go:30
        refine steps_gq rfl rfl rfl (q_field fld47_2 rfl) ?_  -- ref.go:30
        refine steps_gq rfl rfl rfl (q_load1 1 one2 rfl rfl rfl) ?_  -- ref.go:30
        refine steps_gq rfl rfl rfl (q_pure ent37 rfl (may_in hz)) ?_  -- ref.go:30
        refine steps_gq rfl rfl rfl (q_not rfl rfl) ?_  -- ref.go:30
        refine steps_q rfl (q_pick_f rfl rfl) ?_  -- ref.go:30
        refine steps_nil ?_
        refine cw_cond _ rfl (fun hc1 => ?_) (fun hc1 => ?_)
        · cases hc1
        · -- no 1
          refine cw_skip ?_
          refine at_then ?_
          refine cw_sr ?_
          refine steps_q rfl (q_assign rfl) ?_  -- ref.go:33
          refine steps_nil ?_
          refine cw_ret ?_
          exact ret_pure rfl (rv_tmp rfl rv_nil) rfl
      · rw [show errP p = 7 from if_neg fun h => hz h.2.2]
        refine cw_sr ?_
        refine steps_s (s_boxA 1 rfl rfl fun b1 => ?_)  -- ref.go:29
        refine steps_q rfl (q_assign rfl) ?_  -- ref.go:29
        refine steps_nil ?_
        refine cw_seq ?_
        refine cw_sr ?_
        refine steps_q rfl (q_field fld47_0 rfl) ?_  -- ref.go:30
        refine steps_q rfl (q_load1 1 one2 rfl rfl rfl) ?_  -- ref.go:30
        refine steps_q rfl (q_pure ent37 rfl (may_in hx)) ?_  -- ref.go:30
        refine steps_q rfl (q_not rfl rfl) ?_  -- ref.go:30
        refine steps_q rfl (q_move rfl) ?_  -- ref.go:30
        refine steps_gq rfl rfl rfl (q_field fld47_1 rfl) ?_  -- ref.go:30
        refine steps_gq rfl rfl rfl (q_load1 1 one2 rfl rfl rfl) ?_  -- ref.go:30
        refine steps_gq rfl rfl rfl (q_pure ent37 rfl (may_in hy)) ?_  -- ref.go:30
        refine steps_gq rfl rfl rfl (q_not rfl rfl) ?_  -- ref.go:30
        refine steps_q rfl (q_pick_f rfl rfl) ?_  -- ref.go:30
        refine steps_q rfl (q_move rfl) ?_  -- ref.go:30
        refine steps_gq rfl rfl rfl (q_field fld47_2 rfl) ?_  -- ref.go:30
        refine steps_gq rfl rfl rfl (q_load1 1 one2 rfl rfl rfl) ?_  -- ref.go:30
        refine steps_gq rfl rfl rfl (q_pure ent37 rfl (may_out hz)) ?_  -- ref.go:30
        refine steps_gq rfl rfl rfl (q_not rfl rfl) ?_  -- ref.go:30
        refine steps_q rfl (q_pick_f rfl rfl) ?_  -- ref.go:30
        refine steps_nil ?_
        refine cw_cond _ rfl (fun hc1 => ?_) (fun hc1 => ?_)
        · -- yes 1
          refine cw_sr ?_
          refine steps_q rfl (q_assign rfl) ?_  -- ref.go:31
          refine steps_nil ?_
          refine cw_ret ?_
          exact ret_pure rfl (rv_tmp rfl rv_nil) rfl
        · cases hc1
    · rw [show errP p = 7 from if_neg fun h => hy h.2.1]
      refine cw_sr ?_
      refine steps_s (s_boxA 1 rfl rfl fun b1 => ?_)  -- ref.go:29
      refine steps_q rfl (q_assign rfl) ?_  -- ref.go:29
      refine steps_nil ?_
      refine cw_seq ?_
      refine cw_sr ?_
      refine steps_q rfl (q_field fld47_0 rfl) ?_  -- ref.go:30
      refine steps_q rfl (q_load1 1 one2 rfl rfl rfl) ?_  -- ref.go:30
      refine steps_q rfl (q_pure ent37 rfl (may_in hx)) ?_  -- ref.go:30
      refine steps_q rfl (q_not rfl rfl) ?_  -- ref.go:30
      refine steps_q rfl (q_move rfl) ?_  -- ref.go:30
      refine steps_gq rfl rfl rfl (q_field fld47_1 rfl) ?_  -- ref.go:30
      refine steps_gq rfl rfl rfl (q_load1 1 one2 rfl rfl rfl) ?_  -- ref.go:30
      refine steps_gq rfl rfl rfl (q_pure ent37 rfl (may_out hy)) ?_  -- ref.go:30
      refine steps_gq rfl rfl rfl (q_not rfl rfl) ?_  -- ref.go:30
      refine steps_q rfl (q_pick_f rfl rfl) ?_  -- ref.go:30
      refine steps_q rfl (q_move rfl) ?_  -- ref.go:30
      refine steps_gn rfl rfl rfl rfl ?_  -- ref.go:30
      refine steps_gn rfl rfl rfl rfl ?_  -- ref.go:30
      refine steps_gn rfl rfl rfl rfl ?_  -- ref.go:30
      refine steps_gn rfl rfl rfl rfl ?_  -- ref.go:30
      refine steps_q rfl (q_pick_t rfl rfl) ?_  -- ref.go:30
      refine steps_nil ?_
      refine cw_cond _ rfl (fun hc1 => ?_) (fun hc1 => ?_)
      · -- yes 1
        refine cw_sr ?_
        refine steps_q rfl (q_assign rfl) ?_  -- ref.go:31
        refine steps_nil ?_
        refine cw_ret ?_
        exact ret_pure rfl (rv_tmp rfl rv_nil) rfl
      · cases hc1
  · rw [show errP p = 7 from if_neg fun h => hx h.1]
    refine cw_sr ?_
    refine steps_s (s_boxA 1 rfl rfl fun b1 => ?_)  -- ref.go:29
    refine steps_q rfl (q_assign rfl) ?_  -- ref.go:29
    refine steps_nil ?_
    refine cw_seq ?_
    refine cw_sr ?_
    refine steps_q rfl (q_field fld47_0 rfl) ?_  -- ref.go:30
    refine steps_q rfl (q_load1 1 one2 rfl rfl rfl) ?_  -- ref.go:30
    refine steps_q rfl (q_pure ent37 rfl (may_out hx)) ?_  -- ref.go:30
    refine steps_q rfl (q_not rfl rfl) ?_  -- ref.go:30
    refine steps_q rfl (q_move rfl) ?_  -- ref.go:30
    refine steps_gn rfl rfl rfl rfl ?_  -- ref.go:30
    refine steps_gn rfl rfl rfl rfl ?_  -- ref.go:30
    refine steps_gn rfl rfl rfl rfl ?_  -- ref.go:30
    refine steps_gn rfl rfl rfl rfl ?_  -- ref.go:30
    refine steps_q rfl (q_pick_t rfl rfl) ?_  -- ref.go:30
    refine steps_q rfl (q_move rfl) ?_  -- ref.go:30
    refine steps_gn rfl rfl rfl rfl ?_  -- ref.go:30
    refine steps_gn rfl rfl rfl rfl ?_  -- ref.go:30
    refine steps_gn rfl rfl rfl rfl ?_  -- ref.go:30
    refine steps_gn rfl rfl rfl rfl ?_  -- ref.go:30
    refine steps_q rfl (q_pick_t rfl rfl) ?_  -- ref.go:30
    refine steps_nil ?_
    refine cw_cond _ rfl (fun hc1 => ?_) (fun hc1 => ?_)
    · -- yes 1
      refine cw_sr ?_
      refine steps_q rfl (q_assign rfl) ?_  -- ref.go:31
      refine steps_nil ?_
      refine cw_ret ?_
      exact ret_pure rfl (rv_tmp rfl rv_nil) rfl
    · cases hc1
theorem r07_Less {a b : Pt} (ha : a.In P40) (hb : b.In P40) : PureF Tryz.prog 25 [.agg a.l.toArray, .agg b.l.toArray] (.agg (subP a b).l.toArray) := by
  obtain ⟨a1, a2, a3⟩ := ha
  obtain ⟨b1, b2, b3⟩ := hb
  unfold P40 at *
  refine pure_of Tryz.func25 rfl Tryz.ntmps25 rfl fun w => ?_
  refine cw_sr ?_
  refine steps_s (s_boxA 2 rfl rfl fun b2 => ?_)  -- ref.go:22
  refine steps_s (s_boxA 3 rfl rfl fun b3 => ?_)  -- ref.go:22
  refine steps_s (s_allocA 4 rfl zer47 fun b4 => ?_)  -- ref.go:22
  refine steps_nil ?_
  refine cw_sr ?_
  refine steps_q rfl (q_field fld47_0 rfl) ?_  -- ref.go:23
  refine steps_q rfl (q_load1 2 one2 rfl rfl rfl) ?_  -- ref.go:23
  refine steps_q rfl (q_field fld47_0 rfl) ?_  -- ref.go:23
  refine steps_q rfl (q_load1 3 one2 rfl rfl rfl) ?_  -- ref.go:23
  refine steps_q rfl (q_bin rfl rfl (sub64 (by omega) (by omega))) ?_  -- ref.go:23
  refine steps_q rfl (q_field fld47_1 rfl) ?_  -- ref.go:23
  refine steps_q rfl (q_load1 2 one2 rfl rfl rfl) ?_  -- ref.go:23
  refine steps_q rfl (q_field fld47_1 rfl) ?_  -- ref.go:23
  refine steps_q rfl (q_load1 3 one2 rfl rfl rfl) ?_  -- ref.go:23
  refine steps_q rfl (q_bin rfl rfl (sub64 (by omega) (by omega))) ?_  -- ref.go:23
  refine steps_q rfl (q_field fld47_2 rfl) ?_  -- ref.go:23
  refine steps_q rfl (q_load1 2 one2 rfl rfl rfl) ?_  -- ref.go:23
  refine steps_q rfl (q_field fld47_2 rfl) ?_  -- ref.go:23
  refine steps_q rfl (q_load1 3 one2 rfl rfl rfl) ?_  -- ref.go:23
  refine steps_q rfl (q_bin rfl rfl (sub64 (by omega) (by omega))) ?_  -- ref.go:23
  refine steps_q rfl (q_build (vs := [(0, _), (1, _), (2, _)]) rfl rfl (bldP (subP a b))) ?_  -- ref.go:23
  refine steps_s (s_storeW 4 siz47 rfl rfl rfl rfl rfl rfl ?_)  -- ref.go:23
  refine steps_nil ?_
  refine cw_ret ?_
  exact ret_pure rfl (rv_agg 4 agg47 rfl rfl rfl rv_nil) rfl
theorem r07_Fine {ps : List Pt} {v : Value} (w : World) (h : PtsAt w v ps) (hlen : ps.length ≤ 9223372036854775806) :
    Calls Tryz.prog 36 #[v] w fun e w' => e = .returned (.bool (decide (okPts ps))) ∧ Below w.heap.size w w' := by
  obtain ⟨a, c, rfl, hsl⟩ := h
  rw [List.length_map]
  refine calls_of Tryz.func36 rfl Tryz.ntmps36 rfl (St.start w) (args := [.slice a ps.length c]) ?_
  refine cw_sr ?_
  refine steps_q rfl (q_assign rfl) ?_  -- ref.go:12
  refine steps_nil ?_
  refine cw_seq ?_
  refine cw_sr ?_
  refine steps_q rfl (q_assign rfl) ?_  -- ref.go:13
  refine steps_nil ?_
  refine cw_block ?_
  -- LOOP 1 writes [3, 4, 5, 6, 7, 8, 9, 10, 11, 12, 13, 14, 15]  stores via []  reads [0]
  refine cw_loop (S := Int) (fun s => [(0, .slice a ps.length c), (3, .int .i64 s)]) (fun _ => []) (fun s => 0 ≤ s ∧ s ≤ ps.length ∧ ∀ (k : Nat) (p : Pt), ps[k]? = some p → (k : Int) < s → p.In 268435456) (fun s => (ps.length - s).toNat) 0 ⟨by omega, by omega, fun k p _ hk => by omega⟩ (subs ⟨rfl, rfl, trivial⟩) (subs trivial) ?_
  intro i ⟨hi0, hi1, hz⟩
  refine cw_seq ?_
  refine cw_sr ?_
  refine steps_q rfl (q_move rfl) ?_  -- ref.go:13
  refine steps_q rfl (q_move rfl) ?_  -- ref.go:13
  refine steps_q rfl (q_lenSl Tryz.underlying22 rfl) ?_  -- ref.go:13
  refine steps_q rfl (q_bin rfl rfl rfl) ?_  -- ref.go:13
  refine steps_nil ?_
  refine cw_cond _ rfl (fun hc1 => ?_) (fun hc1 => ?_)
  · -- yes 1
    have hc : i < ps.length := of_decide_eq_true hc1
    obtain ⟨p, hp⟩ : ∃ p, ps[i.toNat]? = some p := ⟨ps[i.toNat]'(by omega), List.getElem?_eq_getElem (by omega)⟩
    have hpl : (ps.map Pt.l)[i.toNat]? = some p.l := by rw [List.getElem?_map, hp]; rfl
    obtain ⟨b, off, l, fz, rfl, hb, hpt⟩ := hsl.resolve_left (by intro h; rw [h] at hpl; simp at hpl)
    refine cw_skip ?_
    refine at_then ?_
    refine cw_seq ?_
    refine cw_block ?_
    refine cw_sr ?_
    refine steps_q rfl (q_move rfl) ?_  -- ref.go:14
    refine steps_q rfl (q_move rfl) ?_  -- ref.go:14
    refine steps_q rfl (q_indexSl slc22 rfl rfl hi0 hc) ?_  -- ref.go:14
    refine steps_q rfl (q_loadAo agg47 rfl hb (by simp) (hpt _ _ hpl)) ?_  -- ref.go:14
    refine steps_q rfl (q_pure ent26 rfl (r06_Check p)) ?_  -- ref.go:14
    refine steps_q rfl (q_bin rfl rfl (congrArg (fun b => some (Value.bool b)) (errP_ne p))) ?_  -- ref.go:14
    refine steps_nil ?_
    refine cw_cond _ rfl (fun hc2 => ?_) (fun hc2 => ?_)
    · -- yes 2
      have hn : ¬ p.In 268435456 := by simpa using hc2
      have e : decide (okPts ps) = false := decide_eq_false fun h => hn (h p (List.mem_of_getElem? hp))
      refine cw_sr ?_
      refine steps_q rfl (q_assign rfl) ?_  -- ref.go:15
      refine steps_nil ?_
      refine cw_ret ?_
      rw [e]
      exact ret_pure rfl (rv_tmp rfl rv_nil) rfl
    · -- no 2
      have hn : p.In 268435456 := by simpa using hc2
      have hz' : ∀ (k : Nat) (q : Pt), ps[k]? = some q → (k : Int) < i + 1 → q.In 268435456 := fun k q hq hk => by
        by_cases hki : k = i.toNat
        · subst hki; rw [hp] at hq; cases hq; exact hn
        · exact hz k q hq (by omega)
      refine cw_skip ?_
      refine at_then ?_
      refine cw_region ?_
      refine steps_q rfl (q_move rfl) ?_  -- ref.go:13
      refine steps_q rfl (q_bin rfl rfl (add64 (by omega) (by omega))) ?_  -- ref.go:13
      refine steps_q rfl (q_assign rfl) ?_  -- ref.go:13
      refine steps_nil ?_
      exact at_round _ ⟨by omega, by omega, hz'⟩ (by omega) (subs ⟨rfl, rfl, trivial⟩) (subs trivial)
  · -- no 1
    have hc : ¬ i < ps.length := of_decide_eq_false hc1
    have e : decide (okPts ps) = true := decide_eq_true fun p hp => by
      obtain ⟨k, hk, he⟩ := List.getElem_of_mem hp
      exact hz k p (by rw [List.getElem?_eq_getElem hk, he]) (by omega)
    refine cw_exit ?_
    refine at_then ?_
    refine cw_sr ?_
    refine steps_q rfl (q_assign rfl) ?_  -- ref.go:18
    refine steps_nil ?_
    refine cw_ret ?_
    rw [e]
    exact ret_pure rfl (rv_tmp rfl rv_nil) rfl
theorem r16_Fine {ps : List Pt} {v : Value} (w : World) (h : PtsAt w v ps) (hlen : ps.length ≤ 9223372036854775806) :
    Calls Tryz.prog 24 #[v] w fun e w' => e = .returned (.int .i64 (errG ps)) ∧ Below w.heap.size w w' := by
  have hv0 := h
  obtain ⟨a, c, rfl, hsl⟩ := h
  rw [List.length_map] at hv0 ⊢
  refine calls_of Tryz.func24 rfl Tryz.ntmps24 rfl (St.start w) (args := [.slice a ps.length c]) ?_
  refine cw_sr ?_
  refine steps_q rfl (q_assign rfl) ?_  -- ref.go:12
  refine steps_nil ?_
  refine cw_seq ?_
  refine cw_sr ?_
  refine steps_q rfl (q_move rfl) ?_  -- ref.go:13
  refine steps_q rfl (q_call ent36 rfl rfl (fun w' hw => by simpa using r07_Fine w' (SlAt.st hv0 hw) hlen)) ?_  -- ref.go:13
  refine steps_q rfl (q_not rfl rfl) ?_  -- ref.go:13
  refine steps_nil ?_
  refine cw_cond _ rfl (fun hc1 => ?_) (fun hc1 => ?_)
  · -- yes 1
    have hn : ¬ okPts ps := by simpa using hc1
    have e : errG ps = 7 := if_neg hn
    rw [e]
    refine cw_sr ?_
    refine steps_q rfl (q_assign rfl) ?_  -- ref.go:14
    refine steps_nil ?_
    refine cw_ret ?_
    exact ret_pure rfl (rv_tmp rfl rv_nil) rfl
  · -- no 1
    have hok : okPts ps := by simpa using hc1
    refine cw_skip ?_
    refine at_then ?_
    refine cw_seq ?_
    refine cw_sr ?_
    refine steps_q rfl (q_move rfl) ?_  -- ref.go:16
    refine steps_q rfl (q_lenSl Tryz.underlying22 rfl) ?_  -- ref.go:16
    refine steps_q rfl (q_bin rfl rfl rfl) ?_  -- ref.go:16
    refine steps_nil ?_
    refine cw_cond _ rfl (fun hc2 => ?_) (fun hc2 => ?_)
    · -- yes 2
      have h2 : (ps.length : Int) > 256 := of_decide_eq_true hc2
      have e : errG ps = 3 := by unfold errG; rw [if_pos hok, if_pos (by omega)]
      rw [e]
      refine cw_sr ?_
      refine steps_q rfl (q_assign rfl) ?_  -- ref.go:17
      refine steps_nil ?_
      refine cw_ret ?_
      exact ret_pure rfl (rv_tmp rfl rv_nil) rfl
    · -- no 2
      have h2 : ¬ (ps.length : Int) > 256 := of_decide_eq_false hc2
      refine cw_skip ?_
      refine at_then ?_
      refine cw_seq ?_
      refine cw_sr ?_
      refine steps_q rfl (q_move rfl) ?_  -- ref.go:19
      refine steps_q rfl (q_lenSl Tryz.underlying22 rfl) ?_  -- ref.go:19
      refine steps_q rfl (q_bin rfl rfl rfl) ?_  -- ref.go:19
      refine steps_nil ?_
      refine cw_cond _ rfl (fun hc3 => ?_) (fun hc3 => ?_)
      · -- yes 3
        have h3 : (ps.length : Int) = 0 := of_decide_eq_true hc3
        have e : errG ps = 2 := by unfold errG; rw [if_pos hok, if_neg (by omega), if_pos (by omega)]
        rw [e]
        refine cw_sr ?_
        refine steps_q rfl (q_assign rfl) ?_  -- ref.go:20
        refine steps_nil ?_
        refine cw_ret ?_
        exact ret_pure rfl (rv_tmp rfl rv_nil) rfl
      · -- no 3
        have h3 : ¬ (ps.length : Int) = 0 := of_decide_eq_false hc3
        have e : errG ps = 0 := errG_ok.2 ⟨hok, by omega, by omega⟩
        rw [e]
        refine cw_skip ?_
        refine at_then ?_
        refine cw_sr ?_
        refine steps_q rfl (q_assign rfl) ?_  -- ref.go:22
        refine steps_nil ?_
        refine cw_ret ?_
        exact ret_pure rfl (rv_tmp rfl rv_nil) rfl
theorem errL_bad {a b : List Pt} (ha : errG a = 0) (hb : errG b = 0) (hl : a.length * b.length ≤ 256) {p q : Pt} (hp : p ∈ a) (hq : q ∈ b) (h : ¬ (subP p q).In 268435456) : errL a b = 7 := by
  unfold errL
  rw [if_neg (by omega), if_neg (by omega), if_neg (by omega), if_neg (by omega)]
  unfold errG
  rw [if_neg fun hh => h (hh _ (List.mem_flatMap.2 ⟨p, hp, List.mem_map.2 ⟨q, hq, rfl⟩⟩))]
theorem errL_good {a b : List Pt} (ha : errG a = 0) (hb : errG b = 0) (hl : a.length * b.length ≤ 256) (h : okPts (dif a b)) : errL a b = 0 := by
  unfold errL
  rw [if_neg (by omega), if_neg (by omega), if_neg (by omega), if_neg (by omega)]
  obtain ⟨_, a1, _⟩ := errG_ok.1 ha
  obtain ⟨_, b1, _⟩ := errG_ok.1 hb
  have := dif_len a b
  have := Nat.mul_le_mul a1 b1
  exact errG_ok.2 ⟨h, by omega, by omega⟩
theorem eqlC_t {a b : Int} (h : a = b) : binI .eql .i64 a .i64 b = some (.bool true) := eql_t h

theorem okPts_snoc {l : List Pt} {p : Pt} (h : okPts l) (hp : p.In 268435456) : okPts (l ++ [p]) := fun q hq => by
  rcases List.mem_append.1 hq with h1 | h1
  · exact h q h1
  · rw [List.mem_singleton.1 h1]; exact hp
/-- What the document's Less hands back. -/
def LS2 (a b : List Pt) (v : Value) (Ln : HL) : Prop :=
  (errL a b = 0 ∧ ∃ g cur cap, v = .tuple #[.slice (some ⟨g, 0, none⟩) (dif a b).length cap, .int .i64 0] ∧ Ln = [(68, (g, .cells cur.toArray 47 (0, 0)))] ∧ SV.ok 3 (some (g, cur, cap)) ((dif a b).map Pt.l)) ∨
  (errL a b ≠ 0 ∧ v = .tuple #[.slice none 0 0, .int .i64 (errL a b)] ∧ Ln = [])

set_option maxHeartbeats 4000000 in
theorem r16_Less {a b : List Pt} {u v : Value} (w : World) (hu : PtsAt w u a) (hv : PtsAt w v b) (hla : a.length ≤ 300) (hlb : b.length ≤ 300) :
    Calls Tryz.prog 8 #[u, v] w fun e w' => ∃ v Ln, e = .returned v ∧ LS2 a b v Ln ∧ St w [] w' Ln := by
  have hu0 := hu
  have hv0 := hv
  obtain ⟨x, c, rfl, hs⟩ := hu
  obtain ⟨y, c', rfl, hs'⟩ := hv
  rw [List.length_map] at hu0 ⊢
  rw [List.length_map] at hv0 ⊢
  refine calls_of Tryz.func8 rfl Tryz.ntmps8 rfl (St.start w) (args := [.slice x a.length c, .slice y b.length c']) ?_
  have hprod : a.length * b.length ≤ 300 * 300 := Nat.mul_le_mul hla hlb
  have ep : ((a.length * b.length : Nat) : Int) = (a.length : Int) * b.length := by push_cast; rfl
  have hdl := dif_len a b
  refine cw_sr ?_
  refine steps_q rfl (q_assign rfl) ?_  -- ref.go:51
  refine steps_q rfl (q_assign rfl) ?_  -- ref.go:51
  refine steps_nil ?_
  refine cw_sr ?_
  refine steps_q rfl (q_move rfl) ?_  -- ref.go:52
  refine steps_q rfl (q_call ent24 rfl rfl (fun w' hw => by simpa using r16_Fine w' (SlAt.st hu0 hw) (by omega))) ?_  -- ref.go:52
  refine steps_q rfl (q_move rfl) ?_  -- ref.go:52
  refine steps_q rfl (q_call ent24 rfl rfl (fun w' hw => by simpa using r16_Fine w' (SlAt.st hv0 hw) (by omega))) ?_  -- ref.go:52
  refine steps_q rfl (q_assign rfl) ?_  -- ref.go:52
  refine steps_q rfl (q_assign rfl) ?_  -- ref.go:52
  refine steps_nil ?_
  refine cw_seq ?_
  rcases three (errG a = 7) (errG b = 7) with hx | ⟨hx, hy⟩ | ⟨hx, hy⟩
  · -- way 2.a
    refine cw_sr ?_
    refine steps_q rfl (q_move rfl) ?_  -- ref.go:53
    refine steps_q rfl (q_bin rfl rfl (eql_t hx)) ?_  -- ref.go:53
    refine steps_q rfl (q_move rfl) ?_  -- ref.go:53
    refine steps_gn rfl rfl rfl rfl ?_  -- ref.go:53
    refine steps_gn rfl rfl rfl rfl ?_  -- ref.go:53
    refine steps_q rfl (q_pick_t rfl rfl) ?_  -- ref.go:53
    refine steps_nil ?_
    refine cw_cond _ rfl (fun hc1 => ?_) (fun hc1 => ?_)
    · -- yes 1
      have hE : errL a b = 7 := if_pos (.inl hx)
      refine cw_sr ?_
      refine steps_q rfl (q_assign rfl) ?_  -- ref.go:54
      refine steps_q rfl (q_assign rfl) ?_  -- ref.go:54
      refine steps_nil ?_
      refine cw_ret ?_
      exact ret_st rfl (rv_tmp rfl (rv_tmp rfl rv_nil)) (by rw [← hE]; rfl) (.inr ⟨by rw [hE]; decide, rfl, rfl⟩) fun w' hw => hw
    · cases hc1
  · -- way 2.b
    refine cw_sr ?_
    refine steps_q rfl (q_move rfl) ?_  -- ref.go:53
    refine steps_q rfl (q_bin rfl rfl (eql_f hx)) ?_  -- ref.go:53
    refine steps_q rfl (q_move rfl) ?_  -- ref.go:53
    refine steps_gq rfl rfl rfl (q_move rfl) ?_  -- ref.go:53
    refine steps_gq rfl rfl rfl (q_bin rfl rfl (eql_t hy)) ?_  -- ref.go:53
    refine steps_q rfl (q_pick_f rfl rfl) ?_  -- ref.go:53
    refine steps_nil ?_
    refine cw_cond _ rfl (fun hc1 => ?_) (fun hc1 => ?_)
    · -- yes 1
      have hE : errL a b = 7 := if_pos (.inr hy)
      refine cw_sr ?_
      refine steps_q rfl (q_assign rfl) ?_  -- ref.go:54
      refine steps_q rfl (q_assign rfl) ?_  -- ref.go:54
      refine steps_nil ?_
      refine cw_ret ?_
      exact ret_st rfl (rv_tmp rfl (rv_tmp rfl rv_nil)) (by rw [← hE]; rfl) (.inr ⟨by rw [hE]; decide, rfl, rfl⟩) fun w' hw => hw
    · cases hc1
  · -- way 2.c
    refine cw_sr ?_
    refine steps_q rfl (q_move rfl) ?_  -- ref.go:53
    refine steps_q rfl (q_bin rfl rfl (eql_f hx)) ?_  -- ref.go:53
    refine steps_q rfl (q_move rfl) ?_  -- ref.go:53
    refine steps_gq rfl rfl rfl (q_move rfl) ?_  -- ref.go:53
    refine steps_gq rfl rfl rfl (q_bin rfl rfl (eql_f hy)) ?_  -- ref.go:53
    refine steps_q rfl (q_pick_f rfl rfl) ?_  -- ref.go:53
    refine steps_nil ?_
    refine cw_cond _ rfl (fun hc1 => ?_) (fun hc1 => ?_)
    · cases hc1
    · -- no 1
      refine cw_skip ?_
      refine at_then ?_
      refine cw_seq ?_
      have h7 : ¬ (errG a = 7 ∨ errG b = 7) := by omega
      rcases three (errG a = 3) (errG b = 3) with hx | ⟨hx, hy⟩ | ⟨hx, hy⟩
      · -- way 4.a
        refine cw_sr ?_
        refine steps_q rfl (q_move rfl) ?_  -- ref.go:56
        refine steps_q rfl (q_bin rfl rfl (eql_t hx)) ?_  -- ref.go:56
        refine steps_q rfl (q_move rfl) ?_  -- ref.go:56
        refine steps_gn rfl rfl rfl rfl ?_  -- ref.go:56
        refine steps_gn rfl rfl rfl rfl ?_  -- ref.go:56
        refine steps_q rfl (q_pick_t rfl rfl) ?_  -- ref.go:56
        refine steps_nil ?_
        refine cw_cond _ rfl (fun hc2 => ?_) (fun hc2 => ?_)
        · -- yes 2
          have hE : errL a b = 3 := by unfold errL; rw [if_neg h7, if_pos (.inl hx)]
          refine cw_sr ?_
          refine steps_q rfl (q_assign rfl) ?_  -- ref.go:57
          refine steps_q rfl (q_assign rfl) ?_  -- ref.go:57
          refine steps_nil ?_
          refine cw_ret ?_
          exact ret_st rfl (rv_tmp rfl (rv_tmp rfl rv_nil)) (by rw [← hE]; rfl) (.inr ⟨by rw [hE]; decide, rfl, rfl⟩) fun w' hw => hw
        · cases hc2
      · -- way 4.b
        refine cw_sr ?_
        refine steps_q rfl (q_move rfl) ?_  -- ref.go:56
        refine steps_q rfl (q_bin rfl rfl (eql_f hx)) ?_  -- ref.go:56
        refine steps_q rfl (q_move rfl) ?_  -- ref.go:56
        refine steps_gq rfl rfl rfl (q_move rfl) ?_  -- ref.go:56
        refine steps_gq rfl rfl rfl (q_bin rfl rfl (eql_t hy)) ?_  -- ref.go:56
        refine steps_q rfl (q_pick_f rfl rfl) ?_  -- ref.go:56
        refine steps_nil ?_
        refine cw_cond _ rfl (fun hc2 => ?_) (fun hc2 => ?_)
        · -- yes 2
          have hE : errL a b = 3 := by unfold errL; rw [if_neg h7, if_pos (.inr hy)]
          refine cw_sr ?_
          refine steps_q rfl (q_assign rfl) ?_  -- ref.go:57
          refine steps_q rfl (q_assign rfl) ?_  -- ref.go:57
          refine steps_nil ?_
          refine cw_ret ?_
          exact ret_st rfl (rv_tmp rfl (rv_tmp rfl rv_nil)) (by rw [← hE]; rfl) (.inr ⟨by rw [hE]; decide, rfl, rfl⟩) fun w' hw => hw
        · cases hc2
      · -- way 4.c
        refine cw_sr ?_
        refine steps_q rfl (q_move rfl) ?_  -- ref.go:56
        refine steps_q rfl (q_bin rfl rfl (eql_f hx)) ?_  -- ref.go:56
        refine steps_q rfl (q_move rfl) ?_  -- ref.go:56
        refine steps_gq rfl rfl rfl (q_move rfl) ?_  -- ref.go:56
        refine steps_gq rfl rfl rfl (q_bin rfl rfl (eql_f hy)) ?_  -- ref.go:56
        refine steps_q rfl (q_pick_f rfl rfl) ?_  -- ref.go:56
        refine steps_nil ?_
        refine cw_cond _ rfl (fun hc2 => ?_) (fun hc2 => ?_)
        · cases hc2
        · -- no 2
          refine cw_skip ?_
          refine at_then ?_
          refine cw_seq ?_
          have h3 : ¬ (errG a = 3 ∨ errG b = 3) := by omega
          rcases three (errG a = 2) (errG b = 2) with hx | ⟨hx, hy⟩ | ⟨hx, hy⟩
          · -- way 6.a
            refine cw_sr ?_
            refine steps_q rfl (q_move rfl) ?_  -- ref.go:59
            refine steps_q rfl (q_bin rfl rfl (eql_t hx)) ?_  -- ref.go:59
            refine steps_q rfl (q_move rfl) ?_  -- ref.go:59
            refine steps_gn rfl rfl rfl rfl ?_  -- ref.go:59
            refine steps_gn rfl rfl rfl rfl ?_  -- ref.go:59
            refine steps_q rfl (q_pick_t rfl rfl) ?_  -- ref.go:59
            refine steps_nil ?_
            refine cw_cond _ rfl (fun hc3 => ?_) (fun hc3 => ?_)
            · -- yes 3
              have hE : errL a b = 2 := by unfold errL; rw [if_neg h7, if_neg h3, if_pos (.inl hx)]
              refine cw_sr ?_
              refine steps_q rfl (q_assign rfl) ?_  -- ref.go:60
              refine steps_q rfl (q_assign rfl) ?_  -- ref.go:60
              refine steps_nil ?_
              refine cw_ret ?_
              exact ret_st rfl (rv_tmp rfl (rv_tmp rfl rv_nil)) (by rw [← hE]; rfl) (.inr ⟨by rw [hE]; decide, rfl, rfl⟩) fun w' hw => hw
            · cases hc3
          · -- way 6.b
            refine cw_sr ?_
            refine steps_q rfl (q_move rfl) ?_  -- ref.go:59
            refine steps_q rfl (q_bin rfl rfl (eql_f hx)) ?_  -- ref.go:59
            refine steps_q rfl (q_move rfl) ?_  -- ref.go:59
            refine steps_gq rfl rfl rfl (q_move rfl) ?_  -- ref.go:59
            refine steps_gq rfl rfl rfl (q_bin rfl rfl (eql_t hy)) ?_  -- ref.go:59
            refine steps_q rfl (q_pick_f rfl rfl) ?_  -- ref.go:59
            refine steps_nil ?_
            refine cw_cond _ rfl (fun hc3 => ?_) (fun hc3 => ?_)
            · -- yes 3
              have hE : errL a b = 2 := by unfold errL; rw [if_neg h7, if_neg h3, if_pos (.inr hy)]
              refine cw_sr ?_
              refine steps_q rfl (q_assign rfl) ?_  -- ref.go:60
              refine steps_q rfl (q_assign rfl) ?_  -- ref.go:60
              refine steps_nil ?_
              refine cw_ret ?_
              exact ret_st rfl (rv_tmp rfl (rv_tmp rfl rv_nil)) (by rw [← hE]; rfl) (.inr ⟨by rw [hE]; decide, rfl, rfl⟩) fun w' hw => hw
            · cases hc3
          · -- way 6.c
            refine cw_sr ?_
            refine steps_q rfl (q_move rfl) ?_  -- ref.go:59
            refine steps_q rfl (q_bin rfl rfl (eql_f hx)) ?_  -- ref.go:59
            refine steps_q rfl (q_move rfl) ?_  -- ref.go:59
            refine steps_gq rfl rfl rfl (q_move rfl) ?_  -- ref.go:59
            refine steps_gq rfl rfl rfl (q_bin rfl rfl (eql_f hy)) ?_  -- ref.go:59
            refine steps_q rfl (q_pick_f rfl rfl) ?_  -- ref.go:59
            refine steps_nil ?_
            refine cw_cond _ rfl (fun hc3 => ?_) (fun hc3 => ?_)
            · cases hc3
            · -- no 3
              have h2 : ¬ (errG a = 2 ∨ errG b = 2) := by omega
              have ea : errG a = 0 := by have := errG_cases a; omega
              have eb : errG b = 0 := by have := errG_cases b; omega
              obtain ⟨oka, la1, la2⟩ := errG_ok.1 ea
              obtain ⟨okb, lb1, lb2⟩ := errG_ok.1 eb
              refine cw_skip ?_
              refine at_then ?_
              refine cw_seq ?_
              refine cw_sr ?_
              refine steps_q rfl (q_move rfl) ?_  -- ref.go:62
              refine steps_q rfl (q_lenSl Tryz.underlying22 rfl) ?_  -- ref.go:62
              refine steps_q rfl (q_move rfl) ?_  -- ref.go:62
              refine steps_q rfl (q_lenSl Tryz.underlying22 rfl) ?_  -- ref.go:62
              refine steps_q rfl (q_bin rfl rfl (mul64 (by omega) (by omega))) ?_  -- ref.go:62
              refine steps_q rfl (q_bin rfl rfl rfl) ?_  -- ref.go:62
              refine steps_nil ?_
              refine cw_cond _ rfl (fun hc4 => ?_) (fun hc4 => ?_)
              · -- yes 4
                have h4 : (a.length : Int) * b.length > 256 := of_decide_eq_true hc4
                have hE : errL a b = 3 := by unfold errL; rw [if_neg h7, if_neg h3, if_neg h2, if_pos (by omega)]
                refine cw_sr ?_
                refine steps_q rfl (q_assign rfl) ?_  -- ref.go:63
                refine steps_q rfl (q_assign rfl) ?_  -- ref.go:63
                refine steps_nil ?_
                refine cw_ret ?_
                exact ret_st rfl (rv_tmp rfl (rv_tmp rfl rv_nil)) (by rw [← hE]; rfl) (.inr ⟨by rw [hE]; decide, rfl, rfl⟩) fun w' hw => hw
              · -- no 4
                have h4 : ¬ (a.length : Int) * b.length > 256 := of_decide_eq_false hc4
                have hle : a.length * b.length ≤ 256 := by omega
                refine cw_skip ?_
                refine at_then ?_
                refine cw_sr ?_
                refine steps_q rfl (q_assign rfl) ?_  -- ref.go:65
                refine steps_nil ?_
                refine cw_seq ?_
                refine cw_sr ?_
                refine steps_q rfl (q_assign rfl) ?_  -- ref.go:66
                refine steps_nil ?_
                refine cw_block ?_
                -- LOOP 1 writes [8, 9, 10, 11, 40, 41, 42, 43, 44, 45, 46, 47, 48, 49, 50, 51, 52, 53, 54, 55, 56, 57, 58, 59, 60, 61, 62, 63, 64, 65, 66, 67]  stores via [11]  reads [0, 1]
                refine cw_loop (S := Nat × SV) (fun s => [(0, .slice x a.length c), (1, .slice y b.length c'), (8, s.2.v (dif (a.take s.1) b).length), (9, .int .i64 s.1)]) (fun s => s.2.l 68 47) (fun s => s.1 ≤ a.length ∧ s.2.ok 3 ((dif (a.take s.1) b).map Pt.l) ∧ okPts (dif (a.take s.1) b)) (fun s => a.length - s.1) (0, none) ⟨by dsimp only; omega, by simp [SV.ok, dif], by simp [okPts, dif]⟩ (subs ⟨rfl, rfl, rfl, rfl, trivial⟩) (subs trivial) ?_
                rintro ⟨i, sv⟩ ⟨i1, hsv, hio⟩
                dsimp only at i1 hsv hio
                conv => enter [7]; dsimp only
                conv => enter [8]; dsimp only
                refine cw_seq ?_
                refine cw_sr ?_
                refine steps_q rfl (q_move rfl) ?_  -- ref.go:66
                refine steps_q rfl (q_move rfl) ?_  -- ref.go:66
                refine steps_q rfl (q_lenSl Tryz.underlying22 rfl) ?_  -- ref.go:66
                refine steps_q rfl (q_bin rfl rfl rfl) ?_  -- ref.go:66
                refine steps_nil ?_
                refine cw_cond _ rfl (fun hc5 => ?_) (fun hc5 => ?_)
                · -- yes 5
                  have hi : (i : Int) < (a.length : Int) := of_decide_eq_true hc5
                  obtain ⟨p, hp⟩ : ∃ p, a[i]? = some p := ⟨a[i]'(by omega), List.getElem?_eq_getElem (by omega)⟩
                  have hpl : (a.map Pt.l)[(i : Int).toNat]? = some p.l := by rw [Int.toNat_natCast, List.getElem?_map, hp]; rfl
                  have hpin := oka p (List.mem_of_getElem? hp)
                  obtain ⟨bl, off, l0, fz, rfl, hb, hpt⟩ := hs.resolve_left (by intro h; rw [h] at hpl; simp at hpl)
                  have hti := dif_take (b := b) hp
                  have hil : (dif (a.take i) b).length = i * b.length := by rw [dif_len, List.length_take]; congr 1; omega
                  have hsucc : (i + 1) * b.length ≤ a.length * b.length := Nat.mul_le_mul_right _ (by omega)
                  rw [Nat.add_mul, Nat.one_mul] at hsucc
                  refine cw_skip ?_
                  refine at_then ?_
                  refine cw_seq ?_
                  refine cw_block ?_
                  refine cw_sr ?_
                  refine steps_q rfl (q_assign rfl) ?_  -- ref.go:67
                  refine steps_nil ?_
                  refine cw_block ?_
                  -- LOOP 2 writes [8, 10, 11, 46, 47, 48, 49, 50, 51, 52, 53, 54, 55, 56, 57, 58, 59, 60, 61, 62, 63, 64, 65, 66, 67]  stores via [11]  reads [0, 1, 9]
                  refine cw_loop (S := Nat × SV) (fun s => [(0, .slice (some ⟨bl, off, none⟩) a.length c), (1, .slice y b.length c'), (8, s.2.v ((dif (a.take i) b).length + s.1)), (9, .int .i64 i), (10, .int .i64 s.1)]) (fun s => s.2.l 68 47) (fun s => s.1 ≤ b.length ∧ s.2.ok 3 ((dif (a.take i) b ++ (b.take s.1).map (subP p)).map Pt.l) ∧ okPts (dif (a.take i) b ++ (b.take s.1).map (subP p))) (fun s => b.length - s.1) (0, sv) ⟨by dsimp only; omega, by simpa using hsv, by simpa using hio⟩ (subs ⟨rfl, rfl, rfl, rfl, rfl, trivial⟩) (by rcases sv with _ | ⟨g1, cur1, cap1⟩; exact (subs trivial); exact (subs ⟨rfl, trivial⟩)) ?_
                  rintro ⟨j, sv2⟩ ⟨j1, hsv2, hjo⟩
                  dsimp only at j1 hsv2 hjo
                  conv => enter [7]; dsimp only
                  conv => enter [8]; dsimp only
                  have hjl : ((dif (a.take i) b ++ (b.take j).map (subP p)).map Pt.l).length = (dif (a.take i) b).length + j := by rw [List.length_map, List.length_append, List.length_map, List.length_take]; omega
                  refine cw_seq ?_
                  refine cw_sr ?_
                  refine steps_q rfl (q_move rfl) ?_  -- ref.go:67
                  refine steps_q rfl (q_move rfl) ?_  -- ref.go:67
                  refine steps_q rfl (q_lenSl Tryz.underlying22 rfl) ?_  -- ref.go:67
                  refine steps_q rfl (q_bin rfl rfl rfl) ?_  -- ref.go:67
                  refine steps_nil ?_
                  refine cw_cond _ rfl (fun hc6 => ?_) (fun hc6 => ?_)
                  · -- yes 6
                    have hj : (j : Int) < (b.length : Int) := of_decide_eq_true hc6
                    obtain ⟨q, hq⟩ : ∃ q, b[j]? = some q := ⟨b[j]'(by omega), List.getElem?_eq_getElem (by omega)⟩
                    have hql : (b.map Pt.l)[(j : Int).toNat]? = some q.l := by rw [Int.toNat_natCast, List.getElem?_map, hq]; rfl
                    have hqin := okb q (List.mem_of_getElem? hq)
                    obtain ⟨bl', off', l0', fz', rfl, hb', hpt'⟩ := hs'.resolve_left (by intro h; rw [h] at hql; simp at hql)
                    have htj := take_more (f := subP p) hq
                    refine cw_skip ?_
                    refine at_then ?_
                    refine cw_seq ?_
                    refine cw_block ?_
                    refine cw_sd mixed [0, 1, 2, 3, 4, 5, 6, 7, 8] 2 (without _ [11]) (by kernel_rfl) (sub_without _ _) ?_
                    refine qi_q rfl rfl (q_move rfl) ?_  -- ref.go:68
                    refine qi_q rfl rfl (q_move rfl) ?_  -- ref.go:68
                    refine qi_q rfl rfl (q_indexSl slc22 rfl rfl (by omega) hi) ?_  -- ref.go:68
                    refine qi_q rfl rfl (q_loadAo agg47 rfl hb (by simp) (hpt _ _ hpl)) ?_  -- ref.go:68
                    refine qi_q rfl rfl (q_move rfl) ?_  -- ref.go:68
                    refine qi_q rfl rfl (q_move rfl) ?_  -- ref.go:68
                    refine qi_q rfl rfl (q_indexSl slc22 rfl rfl (by omega) hj) ?_  -- ref.go:68
                    refine qi_q rfl rfl (q_loadAo agg47 rfl hb' (by simp) (hpt' _ _ hql)) ?_  -- ref.go:68
                    refine qi_q rfl rfl (q_pure ent25 rfl (r07_Less (hpin.mono (by decide)) (hqin.mono (by decide)))) ?_  -- ref.go:68
                    refine qi_nil ?_
                    refine tail_one 9 (by kernel_rfl) rfl rfl (s_allocA 11 rfl zer47 fun b11 => ⟨(subl_cons rfl (sub_without _ _)), ?_⟩)  -- ref.go:68
                    refine tail_one 10 (by kernel_rfl) rfl rfl (s_storeW 11 siz47 rfl rfl rfl rfl rfl rfl ⟨(subl_cons rfl (subl_cons rfl (sub_without _ _))), ?_⟩)  -- ref.go:68
                    refine tail_nil (by kernel_rfl) ?_
                    refine cw_seq ?_
                    refine cw_sr ?_
                    refine steps_q rfl (q_loadW 11 agg47 rfl rfl rfl) ?_  -- ref.go:69
                    refine steps_q rfl (q_pure ent26 rfl (r06_Check (subP p q))) ?_  -- ref.go:69
                    refine steps_q rfl (q_bin rfl rfl (congrArg (fun b => some (Value.bool b)) (errP_ne (subP p q)))) ?_  -- ref.go:69
                    refine steps_nil ?_
                    refine cw_cond _ rfl (fun hc7 => ?_) (fun hc7 => ?_)
                    · -- yes 7
                      have hn : ¬ (subP p q).In 268435456 := by simpa using hc7
                      have hE := errL_bad ea eb hle (List.mem_of_getElem? hp) (List.mem_of_getElem? hq) hn
                      refine cw_sr ?_
                      refine steps_q rfl (q_assign rfl) ?_  -- ref.go:70
                      refine steps_q rfl (q_assign rfl) ?_  -- ref.go:70
                      refine steps_nil ?_
                      refine cw_ret ?_
                      exact ret_st rfl (rv_tmp rfl (rv_tmp rfl rv_nil)) (by rw [← hE]; rfl) (.inr ⟨by rw [hE]; decide, rfl, rfl⟩) fun w' hw => hw.weaken (subs trivial)
                    · -- no 7
                      have hn : (subP p q).In 268435456 := by simpa using hc7
                      refine cw_skip ?_
                      refine at_then ?_
                      rcases sv2 with _ | ⟨g1, cur1, cap1⟩
                      · -- way 20.a
                        refine cw_region ?_
                        refine steps_q rfl (q_move rfl) ?_  -- ref.go:72
                        refine steps_q rfl (q_loadW 11 agg47 rfl rfl rfl) ?_  -- ref.go:72
                        refine steps_s (s_buildSl 67 rfl rfl rfl (bslP (subP p q)) fun b66 => ?_)  -- ref.go:72
                        refine steps_s (s_appendN 68 67 none ((dif (a.take i) b).length + j) ((dif (a.take i) b ++ (b.take j).map (subP p)).map Pt.l) (subP p q).l hjl elt22 rfl rfl hsv2 (subs trivial) rfl rfl rfl rfl (by omega) (by unfold maxLen; omega) fun g1 cur1 cap1 hk1 => ?_)  -- ref.go:72
                        refine steps_q rfl (q_assign rfl) ?_  -- ref.go:72
                        refine steps_nil ?_
                        refine at_then ?_
                        refine cw_region ?_
                        refine steps_q rfl (q_move rfl) ?_  -- ref.go:67
                        refine steps_q rfl (q_bin rfl rfl (add64 (by omega) (by omega))) ?_  -- ref.go:67
                        refine steps_q rfl (q_assign rfl) ?_  -- ref.go:67
                        refine steps_nil ?_
                        exact at_round (j + 1, some (g1, cur1, cap1)) ⟨by dsimp only; omega, by dsimp only; rw [htj, ← List.append_assoc, List.map_append]; exact hk1, by dsimp only; rw [htj, ← List.append_assoc]; exact okPts_snoc hjo hn⟩ (by dsimp only; omega) (subs ⟨rfl, rfl, rfl, rfl, by dsimp only; rw [show ((j + 1 : Nat) : Int) = j + 1 by omega]; rfl, trivial⟩) (subs ⟨rfl, trivial⟩)
                      · -- way 20.b
                        refine cw_region ?_
                        refine steps_q rfl (q_move rfl) ?_  -- ref.go:72
                        refine steps_q rfl (q_loadW 11 agg47 rfl rfl rfl) ?_  -- ref.go:72
                        refine steps_s (s_buildSl 67 rfl rfl rfl (bslP (subP p q)) fun b66 => ?_)  -- ref.go:72
                        refine steps_s (s_appendN 68 67 (some (g1, cur1, cap1)) ((dif (a.take i) b).length + j) ((dif (a.take i) b ++ (b.take j).map (subP p)).map Pt.l) (subP p q).l hjl elt22 rfl rfl hsv2 (subs ⟨rfl, trivial⟩) rfl rfl rfl rfl (by omega) (by unfold maxLen; omega) fun g1 cur1 cap1 hk1 => ?_)  -- ref.go:72
                        refine steps_q rfl (q_assign rfl) ?_  -- ref.go:72
                        refine steps_nil ?_
                        refine at_then ?_
                        refine cw_region ?_
                        refine steps_q rfl (q_move rfl) ?_  -- ref.go:67
                        refine steps_q rfl (q_bin rfl rfl (add64 (by omega) (by omega))) ?_  -- ref.go:67
                        refine steps_q rfl (q_assign rfl) ?_  -- ref.go:67
                        refine steps_nil ?_
                        exact at_round (j + 1, some (g1, cur1, cap1)) ⟨by dsimp only; omega, by dsimp only; rw [htj, ← List.append_assoc, List.map_append]; exact hk1, by dsimp only; rw [htj, ← List.append_assoc]; exact okPts_snoc hjo hn⟩ (by dsimp only; omega) (subs ⟨rfl, rfl, rfl, rfl, by dsimp only; rw [show ((j + 1 : Nat) : Int) = j + 1 by omega]; rfl, trivial⟩) (subs ⟨rfl, trivial⟩)
                  · -- no 6
                    have hj : ¬ (j : Int) < (b.length : Int) := of_decide_eq_false hc6
                    have hjb : j = b.length := by omega
                    subst hjb
                    rw [List.take_of_length_le (Nat.le_refl _), ← hti] at hsv2 hjl hjo
                    rw [List.length_map] at hjl
                    refine cw_exit ?_
                    refine at_then ?_
                    refine cw_region ?_
                    refine steps_q rfl (q_move rfl) ?_  -- ref.go:66
                    refine steps_q rfl (q_bin rfl rfl (add64 (by omega) (by omega))) ?_  -- ref.go:66
                    refine steps_q rfl (q_assign rfl) ?_  -- ref.go:66
                    refine steps_nil ?_
                    exact at_round (i + 1, sv2) ⟨by dsimp only; omega, hsv2, hjo⟩ (by dsimp only; omega) (subs ⟨rfl, rfl, by dsimp only; rw [hjl]; rfl, by dsimp only; rw [show ((i + 1 : Nat) : Int) = i + 1 by omega]; rfl, trivial⟩) (by rcases sv2 with _ | ⟨g1, cur1, cap1⟩; exact (subs trivial); exact (subs ⟨rfl, trivial⟩))
                · -- no 5
                  have hi : ¬ (i : Int) < (a.length : Int) := of_decide_eq_false hc5
                  rw [List.take_of_length_le (by omega)] at hsv hio ⊢
                  have hE := errL_good ea eb hle hio
                  have hpos : 1 * 1 ≤ a.length * b.length := Nat.mul_le_mul la1 lb1
                  rcases sv with _ | ⟨g1, cur1, cap1⟩
                  · exfalso
                    have := SV.len0 hsv
                    rw [List.length_map] at this
                    omega
                  refine cw_exit ?_
                  refine at_then ?_
                  refine cw_sr ?_
                  refine steps_q rfl (q_move rfl) ?_  -- ref.go:75
                  refine steps_q rfl (q_assign rfl) ?_  -- ref.go:75
                  refine steps_q rfl (q_assign rfl) ?_  -- ref.go:75
                  refine steps_nil ?_
                  refine cw_ret ?_
                  exact ret_st rfl (rv_tmp rfl (rv_tmp rfl rv_nil)) rfl (.inl ⟨hE, g1, cur1, cap1, rfl, rfl, hsv⟩) fun w' hw => hw.weaken (subs ⟨rfl, trivial⟩)
def LS3 (a b : List Pt) (v : Value) (Ln : HL) : Prop := ∃ g cur cap, v = .tuple #[.slice (some ⟨g, 0, none⟩) (dif a b).length cap, .int .i64 0] ∧ Ln = [(68, (g, .cells cur.toArray 47 (0, 0)))] ∧ SV.ok 3 (some (g, cur, cap)) ((dif a b).map Pt.l)
theorem r16_Less_ok {a b : List Pt} {u v : Value} (w : World) (hu : PtsAt w u a) (hv : PtsAt w v b) (hla : a.length ≤ 300) (hlb : b.length ≤ 300) (he : errL a b = 0) :
    Calls Tryz.prog 8 #[u, v] w fun e w' => ∃ v Ln, e = .returned v ∧ LS3 a b v Ln ∧ St w [] w' Ln :=
  (r16_Less w hu hv hla hlb).mono fun _ _ ⟨v, Ln, h1, h2, h3⟩ => ⟨v, Ln, h1, by
    rcases h2 with ⟨_, h⟩ | ⟨h, _⟩
    · exact h
    · exact absurd he h, h3⟩
theorem r16_Less_bad {a b : List Pt} {u v : Value} (w : World) (hu : PtsAt w u a) (hv : PtsAt w v b) (hla : a.length ≤ 300) (hlb : b.length ≤ 300) (he : errL a b ≠ 0) :
    Calls Tryz.prog 8 #[u, v] w fun e w' => e = .returned (.tuple #[.slice none 0 0, .int .i64 (errL a b)]) ∧ Below w.heap.size w w' :=
  (r16_Less w hu hv hla hlb).mono fun _ _ ⟨v, Ln, h1, h2, h3⟩ => by
    rcases h2 with ⟨h, _⟩ | ⟨_, h, _⟩
    · exact absurd h he
    · subst h; exact ⟨h1, h3.below⟩
theorem same_ne (p q : Pt) : (p ≠ q) = ¬ (p = q) := rfl
theorem r16_Same {a b : List Pt} {u v : Value} (w : World) (hu : PtsAt w u a) (hv : PtsAt w v b) (hla : a.length ≤ 1000000) :
    Calls Tryz.prog 9 #[u, v] w fun e w' => e = .returned (.bool (decide (a = b))) ∧ Below w.heap.size w w' := by
  obtain ⟨x, c, rfl, hs⟩ := hu
  obtain ⟨y, c', rfl, hs'⟩ := hv
  rw [List.length_map, List.length_map]
  refine calls_of Tryz.func9 rfl Tryz.ntmps9 rfl (St.start w) (args := [.slice x a.length c, .slice y b.length c']) ?_
  by_cases hl : a.length = b.length
  · skip
    refine cw_sr ?_
    refine steps_q rfl (q_assign rfl) ?_  -- ref.go:79
    refine steps_nil ?_
    refine cw_seq ?_
    refine cw_sr ?_
    refine steps_q rfl (q_move rfl) ?_  -- ref.go:80
    refine steps_q rfl (q_lenSl Tryz.underlying22 rfl) ?_  -- ref.go:80
    refine steps_q rfl (q_move rfl) ?_  -- ref.go:80
    refine steps_q rfl (q_lenSl Tryz.underlying22 rfl) ?_  -- ref.go:80
    refine steps_q rfl (q_bin rfl rfl (neq_f (by omega))) ?_  -- ref.go:80
    refine steps_nil ?_
    refine cw_cond _ rfl (fun hc1 => ?_) (fun hc1 => ?_)
    · cases hc1
    · -- no 1
      refine cw_skip ?_
      refine at_then ?_
      refine cw_seq ?_
      refine cw_sr ?_
      refine steps_q rfl (q_assign rfl) ?_  -- ref.go:83
      refine steps_nil ?_
      refine cw_block ?_
      -- LOOP 1 writes [5, 11, 12, 13, 14, 15, 16, 17, 18, 19, 20, 21, 22, 23, 24, 25]  stores via []  reads [0, 1]
      refine cw_loop (S := Nat) (fun s => [(0, .slice x a.length c), (1, .slice y b.length c'), (5, .int .i64 s)]) (fun _ => []) (fun s => s ≤ a.length ∧ ∀ k : Nat, k < s → a[k]? = b[k]?) (fun s => a.length - s) 0 ⟨by omega, fun k hk => by omega⟩ (subs ⟨rfl, rfl, rfl, trivial⟩) (subs trivial) ?_
      intro i ⟨hi1, hz⟩
      refine cw_seq ?_
      refine cw_sr ?_
      refine steps_q rfl (q_move rfl) ?_  -- ref.go:83
      refine steps_q rfl (q_move rfl) ?_  -- ref.go:83
      refine steps_q rfl (q_lenSl Tryz.underlying22 rfl) ?_  -- ref.go:83
      refine steps_q rfl (q_bin rfl rfl rfl) ?_  -- ref.go:83
      refine steps_nil ?_
      refine cw_cond _ rfl (fun hc2 => ?_) (fun hc2 => ?_)
      · -- yes 2
        have hc : (i : Int) < a.length := of_decide_eq_true hc2
        obtain ⟨p, hp⟩ : ∃ p, a[i]? = some p := ⟨a[i]'(by omega), List.getElem?_eq_getElem (by omega)⟩
        obtain ⟨q, hq⟩ : ∃ q, b[i]? = some q := ⟨b[i]'(by omega), List.getElem?_eq_getElem (by omega)⟩
        have hpl : (a.map Pt.l)[(i : Int).toNat]? = some p.l := by rw [Int.toNat_natCast, List.getElem?_map, hp]; rfl
        have hql : (b.map Pt.l)[(i : Int).toNat]? = some q.l := by rw [Int.toNat_natCast, List.getElem?_map, hq]; rfl
        obtain ⟨bl, off, l, fz, rfl, hb, hpt⟩ := hs.resolve_left (by intro h; rw [h] at hpl; simp at hpl)
        obtain ⟨bl', off', l', fz', rfl, hb', hpt'⟩ := hs'.resolve_left (by intro h; rw [h] at hql; simp at hql)
        refine cw_skip ?_
        refine at_then ?_
        refine cw_seq ?_
        refine cw_block ?_
        refine cw_sd mixed [0, 1, 2, 3, 4, 5, 6, 7, 8] 0 _ (by kernel_rfl) (SubL.refl _) ?_
        refine qi_q rfl rfl (q_move rfl) ?_  -- ref.go:84
        refine qi_q rfl rfl (q_move rfl) ?_  -- ref.go:84
        refine qi_q rfl rfl (q_indexSl slc22 rfl rfl (by omega) hc) ?_  -- ref.go:84
        refine qi_q rfl rfl (q_loadAo agg47 rfl hb (by simp) (hpt _ _ hpl)) ?_  -- ref.go:84
        refine qi_q rfl rfl (q_move rfl) ?_  -- ref.go:84
        refine qi_q rfl rfl (q_move rfl) ?_  -- ref.go:84
        refine qi_q rfl rfl (q_indexSl slc22 rfl rfl (by omega) (by omega)) ?_  -- ref.go:84
        refine qi_q rfl rfl (q_loadAo agg47 rfl hb' (by simp) (hpt' _ _ hql)) ?_  -- ref.go:84
        refine qi_q rfl rfl (q_aneq rfl rfl (eqlP p q) rfl) ?_  -- ref.go:84
        refine qi_nil ?_
        refine tail_nil (by kernel_rfl) ?_
        refine cw_cond _ rfl (fun hc3 => ?_) (fun hc3 => ?_)
        · -- yes 3
          have hn : ¬ p = q := by simpa using hc3
          have e : decide (a = b) = false := decide_eq_false fun h => hn (by subst h; rw [hp] at hq; exact Option.some.inj hq)
          refine cw_sr ?_
          refine steps_q rfl (q_assign rfl) ?_  -- ref.go:85
          refine steps_nil ?_
          refine cw_ret ?_
          rw [e]
          exact ret_pure rfl (rv_tmp rfl rv_nil) rfl
        · -- no 3
          have hn : p = q := by simpa using hc3
          refine cw_skip ?_
          refine at_then ?_
          refine cw_region ?_
          refine steps_q rfl (q_move rfl) ?_  -- ref.go:83
          refine steps_q rfl (q_bin rfl rfl (add64 (by omega) (by omega))) ?_  -- ref.go:83
          refine steps_q rfl (q_assign rfl) ?_  -- ref.go:83
          refine steps_nil ?_
          exact at_round (i + 1) ⟨by omega, fun k hk => by
            by_cases hki : k = i
            · subst hki; rw [hp, hq, hn]
            · exact hz k (by omega)⟩ (by omega) (subs ⟨rfl, rfl, by rw [show ((i + 1 : Nat) : Int) = i + 1 by omega]; rfl, trivial⟩) (subs trivial)
      · -- no 2
        have hc : ¬ (i : Int) < a.length := of_decide_eq_false hc2
        have e : decide (a = b) = true := decide_eq_true (List.ext_getElem? fun k => by
          by_cases hk : k < i
          · exact hz k hk
          · rw [List.getElem?_eq_none (by omega), List.getElem?_eq_none (by omega)])
        refine cw_exit ?_
        refine at_then ?_
        refine cw_sr ?_
        refine steps_q rfl (q_assign rfl) ?_  -- ref.go:88
        refine steps_nil ?_
        refine cw_ret ?_
        rw [e]
        exact ret_pure rfl (rv_tmp rfl rv_nil) rfl
  · rw [show decide (a = b) = false from decide_eq_false fun h => hl (by rw [h])]
    refine cw_sr ?_
    refine steps_q rfl (q_assign rfl) ?_  -- ref.go:79
    refine steps_nil ?_
    refine cw_seq ?_
    refine cw_sr ?_
    refine steps_q rfl (q_move rfl) ?_  -- ref.go:80
    refine steps_q rfl (q_lenSl Tryz.underlying22 rfl) ?_  -- ref.go:80
    refine steps_q rfl (q_move rfl) ?_  -- ref.go:80
    refine steps_q rfl (q_lenSl Tryz.underlying22 rfl) ?_  -- ref.go:80
    refine steps_q rfl (q_bin rfl rfl (neq_t (by omega))) ?_  -- ref.go:80
    refine steps_nil ?_
    refine cw_cond _ rfl (fun hc1 => ?_) (fun hc1 => ?_)
    · -- yes 1
      refine cw_sr ?_
      refine steps_q rfl (q_assign rfl) ?_  -- ref.go:81
      refine steps_nil ?_
      refine cw_ret ?_
      exact ret_pure rfl (rv_tmp rfl rv_nil) rfl
    · cases hc1
end Go.Proofs.YtomdahjakkifbaaGreat

/-
  The law GjkLess: its walk.
-/
namespace Go.Proofs.YtomdahjakkifbaaGreat
open Go Go.NP Go.RowKit Go.Proofs
set_option maxRecDepth 100000

theorem told_own {w0 w : World} {M : List Nat} {L : HL} {i g cap n : Nat} {cur : List Value} {ps : List Pt} (hw : St w0 M w L) (hl : Go.NP.look L i = some (g, .cells cur.toArray 47 (0, 0))) (hk : SV.ok 3 (some (g, cur, cap)) (ps.map Pt.l)) (hn : n = ps.length) :
    PtsAt w (.slice (some ⟨g, 0, none⟩) n cap) ps := by
  have h := SlAt.own (q := some (g, cur, cap)) (i := i) (e := 47) hw (subs ⟨hl, trivial⟩) hk
  rw [List.length_map] at h
  subst hn; exact h
theorem told_nil (w : World) : PtsAt w (.slice none 0 0) [] := ⟨_, _, rfl, .inl rfl⟩
theorem r16_same_t {a : List Pt} {u v : Value} (w : World) (hu : PtsAt w u a) (hv : PtsAt w v a) (hla : a.length ≤ 1000000) :
    Calls Tryz.prog 9 #[u, v] w fun e w' => e = .returned (.bool true) ∧ Below w.heap.size w w' := by
  have := r16_Same w hu hv hla
  rwa [decide_eq_true rfl] at this
theorem errL_len {a b : List Pt} (h : errL a b = 0) : (dif a b).length ≤ 256 := (errG_ok.1 (errL_zero h)).2.2

set_option maxHeartbeats 4000000 in
theorem law_GjkLess {a b : List Pt} {u v : Value} (w : World) (hu : PtsAt w u a) (hv : PtsAt w v b) (hla : a.length ≤ 9223372036854775807) (hlb : b.length ≤ 9223372036854775807) :
    Calls Tryz.prog 3 #[u, v] w fun e w' => e = .returned (.bool true) ∧ Below w.heap.size w w' := by
  have hu0 := hu
  have hv0 := hv
  obtain ⟨x, c, rfl, hs⟩ := hu
  obtain ⟨y, c', rfl, hs'⟩ := hv
  rw [List.length_map] at hu0 ⊢
  rw [List.length_map] at hv0 ⊢
  refine calls_of Tryz.func3 rfl Tryz.ntmps3 rfl (St.start w) (args := [.slice x a.length c, .slice y b.length c']) ?_
  by_cases ha : a.length ≤ 300
  · by_cases hb : b.length ≤ 300
    · by_cases he : errL a b = 0
      · have hdl := errL_len he
        have hnear := errL_zero he
        by_cases h40 : (dif a b).length ≤ 40
        · skip
          refine cw_sr ?_
          refine steps_q rfl (q_assign rfl) ?_  -- law.go:45
          refine steps_nil ?_
          refine cw_seq ?_
          refine cw_sr ?_
          refine steps_q rfl (q_move rfl) ?_  -- law.go:46
          refine steps_q rfl (q_lenSl Tryz.underlying22 rfl) ?_  -- law.go:46
          refine steps_q rfl (q_bin rfl rfl (gtr_f (by omega))) ?_  -- law.go:46
          refine steps_q rfl (q_move rfl) ?_  -- law.go:46
          refine steps_gq rfl rfl rfl (q_move rfl) ?_  -- law.go:46
          refine steps_gq rfl rfl rfl (q_lenSl Tryz.underlying22 rfl) ?_  -- law.go:46
          refine steps_gq rfl rfl rfl (q_bin rfl rfl (gtr_f (by omega))) ?_  -- law.go:46
          refine steps_q rfl (q_pick_f rfl rfl) ?_  -- law.go:46
          refine steps_nil ?_
          refine cw_cond _ rfl (fun hc1 => ?_) (fun hc1 => ?_)
          · cases hc1
          · -- no 1
            refine cw_skip ?_
            refine at_then ?_
            refine cw_sr ?_
            refine steps_q rfl (q_move rfl) ?_  -- law.go:49
            refine steps_q rfl (q_move rfl) ?_  -- law.go:49
            refine steps_s (s_callSt ent7 rfl rfl rfl (R := LS1 a b) (fun w' hw => by simpa using gjk_Less_ok w' (SlAt.st hu0 hw) (SlAt.st hv0 hw) hla hlb he) fun v Ln hZ => ?_)  -- law.go:49
            obtain ⟨g, cur, cap, rfl, rfl, hsv⟩ := hZ
            refine steps_q rfl (q_move rfl) ?_  -- law.go:49
            refine steps_q rfl (q_extract rfl rfl) ?_  -- law.go:49
            refine steps_q rfl (q_extract rfl rfl) ?_  -- law.go:49
            refine steps_q rfl (q_assign rfl) ?_  -- law.go:49
            refine steps_q rfl (q_assign rfl) ?_  -- law.go:49
            refine steps_nil ?_
            refine cw_sr ?_
            refine steps_q rfl (q_move rfl) ?_  -- law.go:50
            refine steps_q rfl (q_move rfl) ?_  -- law.go:50
            refine steps_s (s_callSt ent8 rfl rfl rfl (R := LS3 a b) (fun w' hw => by simpa using r16_Less_ok w' (SlAt.st hu0 hw) (SlAt.st hv0 hw) ha hb he) fun v Ln hZ => ?_)  -- law.go:50
            obtain ⟨g2, cur2, cap2, rfl, rfl, hsv2⟩ := hZ
            refine steps_q rfl (q_move rfl) ?_  -- law.go:50
            refine steps_q rfl (q_extract rfl rfl) ?_  -- law.go:50
            refine steps_q rfl (q_extract rfl rfl) ?_  -- law.go:50
            refine steps_q rfl (q_assign rfl) ?_  -- law.go:50
            refine steps_q rfl (q_assign rfl) ?_  -- law.go:50
            refine steps_nil ?_
            refine cw_seq ?_
            refine cw_sr ?_
            refine steps_q rfl (q_move rfl) ?_  -- law.go:51
            refine steps_q rfl (q_move rfl) ?_  -- law.go:51
            refine steps_q rfl (q_call ent9 rfl rfl (fun w' hw => by simpa using r16_same_t w' (told_own (i := 66) hw rfl hsv rfl) (told_own (i := 68) hw rfl hsv2 rfl) (by omega))) ?_  -- law.go:51
            refine steps_q rfl (q_not rfl rfl) ?_  -- law.go:51
            refine steps_q rfl (q_move rfl) ?_  -- law.go:51
            refine steps_gq rfl rfl rfl (q_move rfl) ?_  -- law.go:51
            refine steps_gq rfl rfl rfl (q_move rfl) ?_  -- law.go:51
            refine steps_gq rfl rfl rfl (q_bin rfl rfl (neq_f rfl)) ?_  -- law.go:51
            refine steps_q rfl (q_pick_f rfl rfl) ?_  -- law.go:51
            refine steps_nil ?_
            refine cw_cond _ rfl (fun hc2 => ?_) (fun hc2 => ?_)
            · cases hc2
            · -- no 2
              refine cw_skip ?_
              refine at_then ?_
              refine cw_seq ?_
              refine cw_sr ?_
              refine steps_q rfl (q_move rfl) ?_  -- law.go:54
              refine steps_q rfl (q_lenSl Tryz.underlying22 rfl) ?_  -- law.go:54
              refine steps_q rfl (q_bin rfl rfl (gtr_f (by omega))) ?_  -- law.go:54
              refine steps_nil ?_
              refine cw_cond _ rfl (fun hc3 => ?_) (fun hc3 => ?_)
              · cases hc3
              · -- no 3
                refine cw_skip ?_
                refine at_then ?_
                refine cw_sr ?_
                refine steps_q rfl (q_move rfl) ?_  -- law.go:57
                refine steps_q rfl (q_move rfl) ?_  -- law.go:57
                refine steps_s (s_callSt ent10 rfl rfl rfl (R := GN (dif a b)) (fun w' hw => by simpa using gjk_Apart_ok w' (SlAt.st hu0 hw) (SlAt.st hv0 hw) hla hlb he) fun v Ln hZ => ?_)  -- law.go:57
                obtain ⟨own, g3, cur3, cap3, hE, rfl, rfl, hsv3⟩ := hZ
                have hf := ends_fits (errG_ok.1 hnear).1 hE
                refine steps_q rfl (q_move rfl) ?_  -- law.go:57
                refine steps_q rfl (q_extract rfl rfl) ?_  -- law.go:57
                refine steps_q rfl (q_extract rfl rfl) ?_  -- law.go:57
                refine steps_s (s_allocA 9 rfl zer36 fun b9 => ?_)  -- law.go:57
                refine steps_s (s_storeW 9 siz36 rfl rfl rfl rfl rfl rfl ?_)  -- law.go:57
                refine steps_q rfl (q_assign rfl) ?_  -- law.go:57
                refine steps_nil ?_
                refine cw_sr ?_
                refine steps_q rfl (q_move rfl) ?_  -- law.go:58
                refine steps_q rfl (q_move rfl) ?_  -- law.go:58
                refine steps_s (s_callSt ent11 rfl rfl rfl (R := MK (dif a b)) (fun w' hw => by simpa using gjk_Meets_ok w' (SlAt.st hu0 hw) (SlAt.st hv0 hw) hla hlb he) fun v Ln hZ => ?_)  -- law.go:58
                obtain ⟨own2, hE2, rfl, rfl⟩ := hZ
                have hsame2 := nr_same hE2 hE (fun _ h => h) hE2.2
                refine steps_q rfl (q_move rfl) ?_  -- law.go:58
                refine steps_q rfl (q_extract rfl rfl) ?_  -- law.go:58
                refine steps_q rfl (q_extract rfl rfl) ?_  -- law.go:58
                refine steps_q rfl (q_assign rfl) ?_  -- law.go:58
                refine steps_q rfl (q_assign rfl) ?_  -- law.go:58
                refine steps_nil ?_
                refine cw_seq ?_
                refine cw_sr ?_
                refine steps_q rfl (q_move rfl) ?_  -- law.go:59
                refine steps_q rfl (q_bin rfl rfl (neq_f rfl)) ?_  -- law.go:59
                refine steps_nil ?_
                refine cw_cond _ rfl (fun hc4 => ?_) (fun hc4 => ?_)
                · cases hc4
                · -- no 4
                  refine cw_skip ?_
                  refine at_then ?_
                  refine cw_sr ?_
                  refine steps_q rfl (q_move rfl) ?_  -- law.go:62
                  refine steps_s (s_near hnear rfl rfl rfl (fun w' hw => told_own (i := 66) hw rfl hsv rfl) fun own3 g4 cur4 cap4 hE3 hsv4 => ?_)  -- law.go:62
                  have hsame := nr_same hE hE3 (fun _ h => h) hE.2
                  refine steps_q rfl (q_move rfl) ?_  -- law.go:62
                  refine steps_q rfl (q_extract rfl rfl) ?_  -- law.go:62
                  refine steps_q rfl (q_extract rfl rfl) ?_  -- law.go:62
                  refine steps_s (s_allocA 13 rfl zer36 fun b13 => ?_)  -- law.go:62
                  refine steps_s (s_storeW 13 siz36 rfl rfl rfl rfl rfl rfl ?_)  -- law.go:62
                  refine steps_q rfl (q_assign rfl) ?_  -- law.go:62
                  refine steps_nil ?_
                  refine cw_sr ?_
                  refine steps_q rfl (q_loadW 9 agg36 rfl rfl rfl) ?_  -- law.go:63
                  refine steps_q rfl (q_loadW 13 agg36 rfl rfl rfl) ?_  -- law.go:63
                  refine steps_q rfl (q_pure ent12 rfl (law_same_nr hsame hf)) ?_  -- law.go:63
                  refine steps_q rfl (q_move rfl) ?_  -- law.go:63
                  refine steps_gq rfl rfl rfl (q_move rfl) ?_  -- law.go:63
                  refine steps_gq rfl rfl rfl (q_bin rfl rfl (eql_t rfl)) ?_  -- law.go:63
                  refine steps_q rfl (q_pick_t rfl rfl) ?_  -- law.go:63
                  refine steps_q rfl (q_move rfl) ?_  -- law.go:63
                  refine steps_gq rfl rfl rfl (q_move rfl) ?_  -- law.go:63
                  refine steps_gq rfl rfl rfl (q_bin rfl rfl (eql_t rfl)) ?_  -- law.go:63
                  refine steps_q rfl (q_pick_t rfl rfl) ?_  -- law.go:63
                  refine steps_q rfl (q_move rfl) ?_  -- law.go:63
                  refine steps_gq rfl rfl rfl (q_move rfl) ?_  -- law.go:63
                  refine steps_gq rfl rfl rfl (q_bin rfl rfl (eql_t rfl)) ?_  -- law.go:63
                  refine steps_q rfl (q_pick_t rfl rfl) ?_  -- law.go:63
                  refine steps_q rfl (q_move rfl) ?_  -- law.go:63
                  refine steps_gq rfl rfl rfl (q_move rfl) ?_  -- law.go:63
                  refine steps_gq rfl rfl rfl (q_field fld36_0 rfl) ?_  -- law.go:63
                  refine steps_gq rfl rfl rfl (q_loadA 9 agg33 rfl rfl (nr0 _)) ?_  -- law.go:63
                  refine steps_gq rfl rfl rfl (q_build (vs := []) rfl rfl bldS0L) ?_  -- law.go:63
                  refine steps_gq rfl rfl rfl (q_aeql rfl rfl (eqlS (in_fits hf.1) z3fits)) ?_  -- law.go:63
                  refine steps_gq rfl rfl rfl (q_beql bool4 rfl rfl (show (decide ((nrOf (sel (dif a b) own2)).n = ⟨0, 0, 0⟩) == decide ((nrOf (sel (dif a b) own)).n = ⟨0, 0, 0⟩)) = true by rw [hsame2]; exact beq_self_eq_true _)) ?_  -- law.go:63
                  refine steps_q rfl (q_pick_t rfl rfl) ?_  -- law.go:63
                  refine steps_q rfl (q_move rfl) ?_  -- law.go:63
                  refine steps_gq rfl rfl rfl (q_pure ent6 rfl law_awake) ?_  -- law.go:63
                  refine steps_q rfl (q_pick_t rfl rfl) ?_  -- law.go:63
                  refine steps_q rfl (q_assign rfl) ?_  -- law.go:63
                  refine steps_nil ?_
                  refine cw_ret ?_
                  exact ret_pure rfl (rv_tmp rfl rv_nil) rfl
        · skip
          refine cw_sr ?_
          refine steps_q rfl (q_assign rfl) ?_  -- law.go:45
          refine steps_nil ?_
          refine cw_seq ?_
          refine cw_sr ?_
          refine steps_q rfl (q_move rfl) ?_  -- law.go:46
          refine steps_q rfl (q_lenSl Tryz.underlying22 rfl) ?_  -- law.go:46
          refine steps_q rfl (q_bin rfl rfl (gtr_f (by omega))) ?_  -- law.go:46
          refine steps_q rfl (q_move rfl) ?_  -- law.go:46
          refine steps_gq rfl rfl rfl (q_move rfl) ?_  -- law.go:46
          refine steps_gq rfl rfl rfl (q_lenSl Tryz.underlying22 rfl) ?_  -- law.go:46
          refine steps_gq rfl rfl rfl (q_bin rfl rfl (gtr_f (by omega))) ?_  -- law.go:46
          refine steps_q rfl (q_pick_f rfl rfl) ?_  -- law.go:46
          refine steps_nil ?_
          refine cw_cond _ rfl (fun hc1 => ?_) (fun hc1 => ?_)
          · cases hc1
          · -- no 1
            refine cw_skip ?_
            refine at_then ?_
            refine cw_sr ?_
            refine steps_q rfl (q_move rfl) ?_  -- law.go:49
            refine steps_q rfl (q_move rfl) ?_  -- law.go:49
            refine steps_s (s_callSt ent7 rfl rfl rfl (R := LS1 a b) (fun w' hw => by simpa using gjk_Less_ok w' (SlAt.st hu0 hw) (SlAt.st hv0 hw) hla hlb he) fun v Ln hZ => ?_)  -- law.go:49
            obtain ⟨g, cur, cap, rfl, rfl, hsv⟩ := hZ
            refine steps_q rfl (q_move rfl) ?_  -- law.go:49
            refine steps_q rfl (q_extract rfl rfl) ?_  -- law.go:49
            refine steps_q rfl (q_extract rfl rfl) ?_  -- law.go:49
            refine steps_q rfl (q_assign rfl) ?_  -- law.go:49
            refine steps_q rfl (q_assign rfl) ?_  -- law.go:49
            refine steps_nil ?_
            refine cw_sr ?_
            refine steps_q rfl (q_move rfl) ?_  -- law.go:50
            refine steps_q rfl (q_move rfl) ?_  -- law.go:50
            refine steps_s (s_callSt ent8 rfl rfl rfl (R := LS3 a b) (fun w' hw => by simpa using r16_Less_ok w' (SlAt.st hu0 hw) (SlAt.st hv0 hw) ha hb he) fun v Ln hZ => ?_)  -- law.go:50
            obtain ⟨g2, cur2, cap2, rfl, rfl, hsv2⟩ := hZ
            refine steps_q rfl (q_move rfl) ?_  -- law.go:50
            refine steps_q rfl (q_extract rfl rfl) ?_  -- law.go:50
            refine steps_q rfl (q_extract rfl rfl) ?_  -- law.go:50
            refine steps_q rfl (q_assign rfl) ?_  -- law.go:50
            refine steps_q rfl (q_assign rfl) ?_  -- law.go:50
            refine steps_nil ?_
            refine cw_seq ?_
            refine cw_sr ?_
            refine steps_q rfl (q_move rfl) ?_  -- law.go:51
            refine steps_q rfl (q_move rfl) ?_  -- law.go:51
            refine steps_q rfl (q_call ent9 rfl rfl (fun w' hw => by simpa using r16_same_t w' (told_own (i := 66) hw rfl hsv rfl) (told_own (i := 68) hw rfl hsv2 rfl) (by omega))) ?_  -- law.go:51
            refine steps_q rfl (q_not rfl rfl) ?_  -- law.go:51
            refine steps_q rfl (q_move rfl) ?_  -- law.go:51
            refine steps_gq rfl rfl rfl (q_move rfl) ?_  -- law.go:51
            refine steps_gq rfl rfl rfl (q_move rfl) ?_  -- law.go:51
            refine steps_gq rfl rfl rfl (q_bin rfl rfl (neq_f rfl)) ?_  -- law.go:51
            refine steps_q rfl (q_pick_f rfl rfl) ?_  -- law.go:51
            refine steps_nil ?_
            refine cw_cond _ rfl (fun hc2 => ?_) (fun hc2 => ?_)
            · cases hc2
            · -- no 2
              refine cw_skip ?_
              refine at_then ?_
              refine cw_seq ?_
              refine cw_sr ?_
              refine steps_q rfl (q_move rfl) ?_  -- law.go:54
              refine steps_q rfl (q_lenSl Tryz.underlying22 rfl) ?_  -- law.go:54
              refine steps_q rfl (q_bin rfl rfl (gtr_t (by omega))) ?_  -- law.go:54
              refine steps_nil ?_
              refine cw_cond _ rfl (fun hc3 => ?_) (fun hc3 => ?_)
              · -- yes 3
                refine cw_sr ?_
                refine steps_q rfl (q_pure ent6 rfl law_awake) ?_  -- law.go:55
                refine steps_q rfl (q_assign rfl) ?_  -- law.go:55
                refine steps_nil ?_
                refine cw_ret ?_
                exact ret_pure rfl (rv_tmp rfl rv_nil) rfl
              · cases hc3
      · skip
        refine cw_sr ?_
        refine steps_q rfl (q_assign rfl) ?_  -- law.go:45
        refine steps_nil ?_
        refine cw_seq ?_
        refine cw_sr ?_
        refine steps_q rfl (q_move rfl) ?_  -- law.go:46
        refine steps_q rfl (q_lenSl Tryz.underlying22 rfl) ?_  -- law.go:46
        refine steps_q rfl (q_bin rfl rfl (gtr_f (by omega))) ?_  -- law.go:46
        refine steps_q rfl (q_move rfl) ?_  -- law.go:46
        refine steps_gq rfl rfl rfl (q_move rfl) ?_  -- law.go:46
        refine steps_gq rfl rfl rfl (q_lenSl Tryz.underlying22 rfl) ?_  -- law.go:46
        refine steps_gq rfl rfl rfl (q_bin rfl rfl (gtr_f (by omega))) ?_  -- law.go:46
        refine steps_q rfl (q_pick_f rfl rfl) ?_  -- law.go:46
        refine steps_nil ?_
        refine cw_cond _ rfl (fun hc1 => ?_) (fun hc1 => ?_)
        · cases hc1
        · -- no 1
          refine cw_skip ?_
          refine at_then ?_
          refine cw_sr ?_
          refine steps_q rfl (q_move rfl) ?_  -- law.go:49
          refine steps_q rfl (q_move rfl) ?_  -- law.go:49
          refine steps_q rfl (q_call ent7 rfl rfl (fun w' hw => by simpa using gjk_Less_bad w' (SlAt.st hu0 hw) (SlAt.st hv0 hw) hla hlb he)) ?_  -- law.go:49
          refine steps_q rfl (q_move rfl) ?_  -- law.go:49
          refine steps_q rfl (q_extract rfl rfl) ?_  -- law.go:49
          refine steps_q rfl (q_extract rfl rfl) ?_  -- law.go:49
          refine steps_q rfl (q_assign rfl) ?_  -- law.go:49
          refine steps_q rfl (q_assign rfl) ?_  -- law.go:49
          refine steps_nil ?_
          refine cw_sr ?_
          refine steps_q rfl (q_move rfl) ?_  -- law.go:50
          refine steps_q rfl (q_move rfl) ?_  -- law.go:50
          refine steps_q rfl (q_call ent8 rfl rfl (fun w' hw => by simpa using r16_Less_bad w' (SlAt.st hu0 hw) (SlAt.st hv0 hw) ha hb he)) ?_  -- law.go:50
          refine steps_q rfl (q_move rfl) ?_  -- law.go:50
          refine steps_q rfl (q_extract rfl rfl) ?_  -- law.go:50
          refine steps_q rfl (q_extract rfl rfl) ?_  -- law.go:50
          refine steps_q rfl (q_assign rfl) ?_  -- law.go:50
          refine steps_q rfl (q_assign rfl) ?_  -- law.go:50
          refine steps_nil ?_
          refine cw_seq ?_
          refine cw_sr ?_
          refine steps_q rfl (q_move rfl) ?_  -- law.go:51
          refine steps_q rfl (q_move rfl) ?_  -- law.go:51
          refine steps_q rfl (q_call ent9 rfl rfl (fun w' hw => by simpa using r16_same_t w' (told_nil w') (told_nil w') (by simp))) ?_  -- law.go:51
          refine steps_q rfl (q_not rfl rfl) ?_  -- law.go:51
          refine steps_q rfl (q_move rfl) ?_  -- law.go:51
          refine steps_gq rfl rfl rfl (q_move rfl) ?_  -- law.go:51
          refine steps_gq rfl rfl rfl (q_move rfl) ?_  -- law.go:51
          refine steps_gq rfl rfl rfl (q_bin rfl rfl (neq_f rfl)) ?_  -- law.go:51
          refine steps_q rfl (q_pick_f rfl rfl) ?_  -- law.go:51
          refine steps_nil ?_
          refine cw_cond _ rfl (fun hc2 => ?_) (fun hc2 => ?_)
          · cases hc2
          · -- no 2
            refine cw_skip ?_
            refine at_then ?_
            refine cw_seq ?_
            refine cw_sr ?_
            refine steps_q rfl (q_move rfl) ?_  -- law.go:54
            refine steps_q rfl (q_lenSl Tryz.underlying22 rfl) ?_  -- law.go:54
            refine steps_q rfl (q_bin rfl rfl (gtr_f (by omega))) ?_  -- law.go:54
            refine steps_nil ?_
            refine cw_cond _ rfl (fun hc3 => ?_) (fun hc3 => ?_)
            · cases hc3
            · -- no 3
              refine cw_skip ?_
              refine at_then ?_
              refine cw_sr ?_
              refine steps_q rfl (q_move rfl) ?_  -- law.go:57
              refine steps_q rfl (q_move rfl) ?_  -- law.go:57
              refine steps_q rfl (q_call ent10 rfl rfl (fun w' hw => by simpa using gjk_Apart_bad w' (SlAt.st hu0 hw) (SlAt.st hv0 hw) hla hlb he)) ?_  -- law.go:57
              refine steps_q rfl (q_move rfl) ?_  -- law.go:57
              refine steps_q rfl (q_extract rfl rfl) ?_  -- law.go:57
              refine steps_q rfl (q_extract rfl rfl) ?_  -- law.go:57
              refine steps_s (s_allocA 9 rfl zer36 fun b9 => ?_)  -- law.go:57
              refine steps_s (s_storeW 9 siz36 rfl rfl rfl rfl rfl rfl ?_)  -- law.go:57
              refine steps_q rfl (q_assign rfl) ?_  -- law.go:57
              refine steps_nil ?_
              refine cw_sr ?_
              refine steps_q rfl (q_move rfl) ?_  -- law.go:58
              refine steps_q rfl (q_move rfl) ?_  -- law.go:58
              refine steps_q rfl (q_call ent11 rfl rfl (fun w' hw => by simpa using gjk_Meets_bad w' (SlAt.st hu0 hw) (SlAt.st hv0 hw) hla hlb he)) ?_  -- law.go:58
              refine steps_q rfl (q_move rfl) ?_  -- law.go:58
              refine steps_q rfl (q_extract rfl rfl) ?_  -- law.go:58
              refine steps_q rfl (q_extract rfl rfl) ?_  -- law.go:58
              refine steps_q rfl (q_assign rfl) ?_  -- law.go:58
              refine steps_q rfl (q_assign rfl) ?_  -- law.go:58
              refine steps_nil ?_
              refine cw_seq ?_
              refine cw_sr ?_
              refine steps_q rfl (q_move rfl) ?_  -- law.go:59
              refine steps_q rfl (q_bin rfl rfl (neq_t he)) ?_  -- law.go:59
              refine steps_nil ?_
              refine cw_cond _ rfl (fun hc4 => ?_) (fun hc4 => ?_)
              · -- yes 4
                refine cw_sr ?_
                refine steps_q rfl (q_loadW 9 agg36 rfl rfl rfl) ?_  -- law.go:60
                refine steps_q rfl (q_build (vs := []) rfl rfl bldN0) ?_  -- law.go:60
                refine steps_q rfl (q_pure ent12 rfl (law_same (a := nrZ) (b := nrZ) z3fits z3fits fits0 fits0)) ?_  -- law.go:60
                rw [same_self nrZ nrZ rfl rfl]
                refine steps_q rfl (q_move rfl) ?_  -- law.go:60
                refine steps_gq rfl rfl rfl (q_move rfl) ?_  -- law.go:60
                refine steps_gq rfl rfl rfl (q_not rfl rfl) ?_  -- law.go:60
                refine steps_q rfl (q_pick_t rfl rfl) ?_  -- law.go:60
                refine steps_q rfl (q_move rfl) ?_  -- law.go:60
                refine steps_gq rfl rfl rfl (q_move rfl) ?_  -- law.go:60
                refine steps_gq rfl rfl rfl (q_move rfl) ?_  -- law.go:60
                refine steps_gq rfl rfl rfl (q_bin rfl rfl (eql_t rfl)) ?_  -- law.go:60
                refine steps_q rfl (q_pick_t rfl rfl) ?_  -- law.go:60
                refine steps_q rfl (q_move rfl) ?_  -- law.go:60
                refine steps_gq rfl rfl rfl (q_move rfl) ?_  -- law.go:60
                refine steps_gq rfl rfl rfl (q_move rfl) ?_  -- law.go:60
                refine steps_gq rfl rfl rfl (q_bin rfl rfl (eql_t rfl)) ?_  -- law.go:60
                refine steps_q rfl (q_pick_t rfl rfl) ?_  -- law.go:60
                refine steps_q rfl (q_move rfl) ?_  -- law.go:60
                refine steps_gq rfl rfl rfl (q_pure ent6 rfl law_awake) ?_  -- law.go:60
                refine steps_q rfl (q_pick_t rfl rfl) ?_  -- law.go:60
                refine steps_q rfl (q_assign rfl) ?_  -- law.go:60
                refine steps_nil ?_
                refine cw_ret ?_
                exact ret_pure rfl (rv_tmp rfl rv_nil) rfl
              · cases hc4
    · skip
      refine cw_sr ?_
      refine steps_q rfl (q_assign rfl) ?_  -- law.go:45
      refine steps_nil ?_
      refine cw_seq ?_
      refine cw_sr ?_
      refine steps_q rfl (q_move rfl) ?_  -- law.go:46
      refine steps_q rfl (q_lenSl Tryz.underlying22 rfl) ?_  -- law.go:46
      refine steps_q rfl (q_bin rfl rfl (gtr_f (by omega))) ?_  -- law.go:46
      refine steps_q rfl (q_move rfl) ?_  -- law.go:46
      refine steps_gq rfl rfl rfl (q_move rfl) ?_  -- law.go:46
      refine steps_gq rfl rfl rfl (q_lenSl Tryz.underlying22 rfl) ?_  -- law.go:46
      refine steps_gq rfl rfl rfl (q_bin rfl rfl (gtr_t (by omega))) ?_  -- law.go:46
      refine steps_q rfl (q_pick_f rfl rfl) ?_  -- law.go:46
      refine steps_nil ?_
      refine cw_cond _ rfl (fun hc1 => ?_) (fun hc1 => ?_)
      · -- yes 1
        refine cw_sr ?_
        refine steps_q rfl (q_pure ent6 rfl law_awake) ?_  -- law.go:47
        refine steps_q rfl (q_assign rfl) ?_  -- law.go:47
        refine steps_nil ?_
        refine cw_ret ?_
        exact ret_pure rfl (rv_tmp rfl rv_nil) rfl
      · cases hc1
  · skip
    refine cw_sr ?_
    refine steps_q rfl (q_assign rfl) ?_  -- law.go:45
    refine steps_nil ?_
    refine cw_seq ?_
    refine cw_sr ?_
    refine steps_q rfl (q_move rfl) ?_  -- law.go:46
    refine steps_q rfl (q_lenSl Tryz.underlying22 rfl) ?_  -- law.go:46
    refine steps_q rfl (q_bin rfl rfl (gtr_t (by omega))) ?_  -- law.go:46
    refine steps_q rfl (q_move rfl) ?_  -- law.go:46
    refine steps_gn rfl rfl rfl rfl ?_  -- law.go:46
    refine steps_gn rfl rfl rfl rfl ?_  -- law.go:46
    refine steps_gn rfl rfl rfl rfl ?_  -- law.go:46
    refine steps_q rfl (q_pick_t rfl rfl) ?_  -- law.go:46
    refine steps_nil ?_
    refine cw_cond _ rfl (fun hc1 => ?_) (fun hc1 => ?_)
    · -- yes 1
      refine cw_sr ?_
      refine steps_q rfl (q_pure ent6 rfl law_awake) ?_  -- law.go:47
      refine steps_q rfl (q_assign rfl) ?_  -- law.go:47
      refine steps_nil ?_
      refine cw_ret ?_
      exact ret_pure rfl (rv_tmp rfl rv_nil) rfl
    · cases hc1
end Go.Proofs.YtomdahjakkifbaaGreat

/-
  The differences of any two lists are the document's, or refused, and what is asked of two lists is asked of them: GjkLess answers true and leaves its arguments alone.
  No condition: every input.
-/
namespace Go.Proofs.YtomdahjakkifbaaGreat
open Go Go.NP Go.RowKit Go.Proofs Go.ChangeShapes Go.WideShapes Go.ChangeAt
set_option maxRecDepth 100000

theorem gjkLess_lifted (os : Os) (started : os.Started) (H : Type) (enc : TypeId × Value → H) :
    ReturnsInHanded {} Tryz.checked os 3 .any (Rows.gjkLessSpec.pre6 enc Tryz.prog Tryz.f3 Rows.gjkLessRow.domain false) (Rows.gjkLessSpec.post enc Tryz.prog Tryz.f3 false true false false) := by
  refine returnsInHanded_of_change (C := Tryz.checked) Tryz.own started (by kernel_rfl) Tryz.func3
    (ChangeSpec.witness6 (enc := enc) (C := Tryz.checked) false ⟨#[], #[.slice none 0 0, .slice none 0 0], []⟩ 8 (by kernel_rfl) (by kernel_rfl) (by kernel_rfl) (by kernel_rfl)) ?_
  intro W base args ds gs before hval0 hW hcnd _
  have hval : ∀ (j : Nat) t v, Tryz.f3.params[j]? = some t → args[j]? = some v → Value.okWide Tryz.prog W .any base t v := hval0
  have hW' := hW
  obtain ⟨p, q, hA0, hV, rfl, hfz, hnd⟩ := hW
  have hA : DataW.TrodAll enc Tryz.prog W 0 (fun _ => true) true Tryz.f3.params.toList args.toList ds p := hA0
  have hAk := hA
  rw [Tryz.params3] at hA hval
  obtain ⟨v0, v1, d0, d1, p0, p1, rfl, rfl, rfl, h0, h1⟩ := trodAll_two hA
  obtain ⟨a, ha, hla⟩ := open_pts (okWide_slice Tryz.underlying22 (hval 0 22 v0 rfl rfl)) h0
  obtain ⟨b, hb, hlb⟩ := open_pts (okWide_slice Tryz.underlying22 (hval 1 22 v1 rfl rfl)) h1
  obtain ⟨rfl, rfl⟩ := trodVars_none hV
  clear hA0 hval0
  simp only [List.append_nil] at hW'
  refine (law_GjkLess W ha hb hla hlb).mono fun e W' ⟨he, hw⟩ => ?_
  subst he
  exact ⟨_, rfl, law_post (tb := 4) Tryz.laidOut rfl Tryz.underlying4 (by kernel_rfl) hW' hAk (by rw [Tryz.params3]; intro t ht; simp at ht; (first | subst ht | (rcases ht with ht | ht <;> subst ht) | (rcases ht with ht | ht | ht <;> subst ht)) <;> exact ⟨by kernel_rfl, of_decide_eq_true (by kernel_rfl)⟩) rfl hw⟩

theorem gjkLess_holds : Rows.GjkLessSaid :=
  OpenClaim.holds_of_wide 3 Tryz.f3 rfl rfl rfl rfl rfl rfl rfl ⟨rfl, rfl, rfl, rfl, rfl⟩ rfl rfl rfl rfl rfl (by kernel_rfl) Tryz.func3 (by kernel_rfl)
    (of_decide_eq_true (by kernel_rfl)) (by unfold Func.isWrapper; first | (rw [if_pos (by decide +kernel)]; kernel_rfl) | (rw [if_neg (by decide +kernel)]; exact ⟨rfl, rfl⟩))
    (fun os started H enc _ => gjkLess_lifted os started H enc)
end Go.Proofs.YtomdahjakkifbaaGreat
