/-
  With the points in another order, and with the middle of two of them, if it is a point, the nearest one is the same: GjkSame answers true and leaves its arguments alone.
  No condition: every input.
-/
import Derived.Test.YtomdahjakkifbaaPg

/-
  The law GjkSame: its walk.
-/
namespace Go.NP
open Go Go.RowKit
section
variable {P : Program} {w0 : World} {M : List Nat} {N : Nat} {D : Dfr} {T : TL} {L : HL}
/-- l[i:], i ahead of its end. -/
theorem q_slLo {d : Option Tmp} {x y : Operand} {b off n c s : Nat} {k : IntKind} {i : Int} {t e t' : TypeId} {p : String} {af : Array Edge} {g : Option (Nat × Bool)} (hA : Slc P t e s)
    (hx : ev T x = some (.slice (some ⟨b, off, none⟩) n c)) (hy : ev T y = some (.int k i)) (h0 : 0 ≤ i) (h1 : i < n) (hc : n ≤ c) :
    Quiet P w0 M N D { dst := d, op := .slice t x (some y) none none, type := t', pos := p, after := af, guard := g } T L (.slice (some ⟨b, off + i.toNat * s, none⟩) (n - i.toNat) (c - i.toNat)) :=
  q_run fun a w ha _ => by
    have hs : Siz P e s := hA.2
    have hne : c ≠ i.toNat := by omega
    have hle : i ≤ (n : Int) := by omega
    simp [execOp, ha.ev hx, ha.ev hy, Instr.sliceAt, Instr.slice, Instr.sliceBounds, run_sliceBound, run_underlying hA.1, h0, hle, run_sizeOf hs, Addr.add_none, hne]
/-- l[:i]. -/
theorem q_slHi {d : Option Tmp} {x y : Operand} {b off n c s : Nat} {k : IntKind} {i : Int} {t e t' : TypeId} {p : String} {af : Array Edge} {g : Option (Nat × Bool)} (hA : Slc P t e s)
    (hx : ev T x = some (.slice (some ⟨b, off, none⟩) n c)) (hy : ev T y = some (.int k i)) (h0 : 0 ≤ i) (h1 : i ≤ c) :
    Quiet P w0 M N D { dst := d, op := .slice t x none (some y) none, type := t', pos := p, after := af, guard := g } T L (.slice (some ⟨b, off, none⟩) i.toNat c) :=
  q_run fun a w ha _ => by
    have hs : Siz P e s := hA.2
    simp [execOp, ha.ev hx, ha.ev hy, Instr.sliceAt, Instr.slice, Instr.sliceBounds, run_sliceBound, run_underlying hA.1, h0, h1, run_sizeOf hs, Addr.add_none]
theorem remT {a b : Int} (hb : b ≠ 0) : binI .rem .i64 a .i64 b = some (.int .i64 (a.tmod b)) := by
  simp only [binI]
  rw [if_pos ⟨trivial, hb⟩]
theorem quo2 {a m : Int} (h : a = 2 * m) (h0 : -9223372036854775808 ≤ m) (h1 : m ≤ 9223372036854775807) : binI .quo .i64 a .i64 2 = some (.int .i64 m) := by
  simp only [binI]
  rw [if_pos ⟨trivial, by decide⟩, h, Int.mul_comm, Int.mul_tdiv_cancel _ (by decide), IntWalk.i64_in _ ⟨h0, h1⟩]
end
end Go.NP
namespace Go.Proofs.Ytomdahjakkifbaa
open Go Go.NP Go.RowKit Go.Proofs
set_option maxRecDepth 100000

/-- The points from k on, then those ahead of it. -/
def rotI (ps : List Pt) (k : Int) : List Pt := ps.drop k.toNat ++ ps.take k.toNat
theorem rotI_mem {ps : List Pt} {k : Int} {q : Pt} : q ∈ rotI ps k ↔ q ∈ ps := by
  unfold rotI
  rw [List.mem_append, or_comm, ← List.mem_append, List.take_append_drop]
theorem rotI_len (ps : List Pt) {k : Int} (h0 : 0 ≤ k) (h1 : k < ps.length) : (rotI ps k).length = ps.length := by
  simp [rotI]; omega
theorem errG_rot {ps : List Pt} {k : Int} (he : errG ps = 0) (h0 : 0 ≤ k) (h1 : k < ps.length) : errG (rotI ps k) = 0 := by
  obtain ⟨a, b, c⟩ := errG_ok.1 he
  exact errG_ok.2 ⟨fun q hq => a q (rotI_mem.1 hq), by rw [rotI_len ps h0 h1]; exact b, by rw [rotI_len ps h0 h1]; exact c⟩
theorem told_rot {w0 w : World} {M : List Nat} {L : HL} {g cap n : Nat} {cur : List Value} {ps : List Pt} (hw : St w0 M w L) (hl : Go.NP.look L 61 = some (g, .cells cur.toArray 38 (0, 0))) (hk : SV.ok 3 (some (g, cur, cap)) (ps.map Pt.l)) (hn : n = ps.length) :
    PtsAt w (.slice (some ⟨g, 0, none⟩) n cap) ps := by
  have h := SlAt.own (q := some (g, cur, cap)) (i := 61) (e := 38) hw (subs ⟨hl, trivial⟩) hk
  rw [List.length_map] at h
  subst hn; exact h
theorem told_drop {l : List Value} {off : Nat} {ps : List Pt} (h : ∀ k x, (ps.map Pt.l)[k]? = some x → Part l (off + k * 3) 3 x) (n : Nat) : ∀ j x, ((ps.drop n).map Pt.l)[j]? = some x → Part l (off + n * 3 + j * 3) 3 x := fun j x hx => by
  have := h (n + j) x (by rw [← hx, List.getElem?_map, List.getElem?_map, List.getElem?_drop])
  rwa [Nat.add_mul, ← Nat.add_assoc] at this
theorem told_take {l : List Value} {off : Nat} {ps : List Pt} (h : ∀ k x, (ps.map Pt.l)[k]? = some x → Part l (off + k * 3) 3 x) (n : Nat) : ∀ j x, ((ps.take n).map Pt.l)[j]? = some x → Part l (off + j * 3) 3 x := fun j x hx => by
  have hj := (List.getElem?_eq_some_iff.1 hx).1
  simp at hj
  exact h j x (by rw [← hx, List.getElem?_map, List.getElem?_map, List.getElem?_take, if_pos (by omega)])
theorem even_of {x : Int} (h : x.tmod 2 = 0) : ∃ m, x = 2 * m := ⟨x / 2, by rw [Int.tmod_eq_emod] at h; split at h <;> omega⟩
theorem mid_ahead {ps : List Pt} {N : Sp} {d : Int} {a b m : Pt} (h : Ahead ps N d) (ha : a ∈ ps) (hb : b ∈ ps) (hx : a.x + b.x = 2 * m.x) (hy : a.y + b.y = 2 * m.y) (hz : a.z + b.z = 2 * m.z) : sqS N ≤ dotS N m * d := by
  have h1 := h a ha
  have h2 := h b hb
  have e : dotS N a * d + dotS N b * d = 2 * (dotS N m * d) := by
    have : dotS N a + dotS N b = 2 * dotS N m := by
      simp only [dotS]
      have k1 : N.x * a.x + N.x * b.x = 2 * (N.x * m.x) := by rw [← Int.mul_add, hx]; grind
      have k2 : N.y * a.y + N.y * b.y = 2 * (N.y * m.y) := by rw [← Int.mul_add, hy]; grind
      have k3 : N.z * a.z + N.z * b.z = 2 * (N.z * m.z) := by rw [← Int.mul_add, hz]; grind
      omega
    rw [← Int.add_mul, this, Int.mul_assoc]
  omega

set_option maxHeartbeats 800000 in
theorem law_GjkSame {ps : List Pt} {a : Option Addr} {c0 : Nat} {turn : Int} (w : World) (hv0 : PtsAt w (.slice a ps.length c0) ps) (hcap : ps.length ≤ c0) (hl : ps.length ≤ 9223372036854775807) :
    Calls Try.prog 3 #[.slice a ps.length c0, .int .i64 turn] w fun e w' => e = .returned (.bool true) ∧ Below w.heap.size w w' := by
  refine calls_of Try.func3 rfl Try.ntmps3 rfl (St.start w) (args := [.slice a ps.length c0, .int .i64 turn]) ?_
  by_cases he : errG ps = 0
  · obtain ⟨hok, l1, l256⟩ := errG_ok.1 he
    by_cases h40 : ps.length ≤ 40
    · obtain ⟨a', c', hvv, hs⟩ := id hv0
      simp only [List.length_map, Value.slice.injEq] at hvv
      obtain ⟨rfl, _, rfl⟩ := hvv
      obtain ⟨bl, off, l, fz, rfl, hb, hpt⟩ := hs.resolve_left (by intro h; rw [List.map_eq_nil_iff] at h; subst h; simp at l1)
      have hblt : bl < w.heap.size := (Array.getElem?_eq_some_iff.1 hb).1
      have htm : -(ps.length : Int) < turn.tmod ps.length ∧ turn.tmod ps.length < ps.length := ⟨Int.lt_tmod_of_pos turn (by omega), Int.tmod_lt_of_pos turn (by omega)⟩
      refine cw_sr ?_
      refine steps_q rfl (q_assign rfl) ?_  -- outright.go:49
      refine steps_nil ?_
      refine cw_sr ?_
      refine steps_q rfl (q_move rfl) ?_  -- outright.go:50
      refine steps_s (s_near he rfl rfl rfl (fun w' hw => SlAt.st hv0 hw) fun own g cur cap hE hsv => ?_)  -- outright.go:50
      have hf := ends_fits hok hE
      refine steps_q rfl (q_move rfl) ?_  -- outright.go:50
      refine steps_q rfl (q_extract rfl rfl) ?_  -- outright.go:50
      refine steps_q rfl (q_extract rfl rfl) ?_  -- outright.go:50
      refine steps_s (s_allocA 5 rfl zer31 fun b5 => ?_)  -- outright.go:50
      refine steps_s (s_storeW 5 siz31 rfl rfl rfl rfl rfl rfl ?_)  -- outright.go:50
      refine steps_q rfl (q_assign rfl) ?_  -- outright.go:50
      refine steps_nil ?_
      refine cw_seq ?_
      refine cw_sr ?_
      refine steps_q rfl (q_move rfl) ?_  -- outright.go:51
      refine steps_q rfl (q_bin rfl rfl (neq_f rfl)) ?_  -- outright.go:51
      refine steps_q rfl (q_move rfl) ?_  -- outright.go:51
      refine steps_gq rfl rfl rfl (q_move rfl) ?_  -- outright.go:51
      refine steps_gq rfl rfl rfl (q_lenSl Try.underlying22 rfl) ?_  -- outright.go:51
      refine steps_gq rfl rfl rfl (q_bin rfl rfl (gtr_f (by omega))) ?_  -- outright.go:51
      refine steps_q rfl (q_pick_f rfl rfl) ?_  -- outright.go:51
      refine steps_nil ?_
      refine cw_cond _ rfl (fun hc1 => ?_) (fun hc1 => ?_)
      · cases hc1
      · -- no 1
        refine cw_skip ?_
        refine at_then ?_
        refine cw_sr ?_
        refine steps_q rfl (q_move rfl) ?_  -- outright.go:54
        refine steps_q rfl (q_move rfl) ?_  -- outright.go:54
        refine steps_q rfl (q_lenSl Try.underlying22 rfl) ?_  -- outright.go:54
        refine steps_q rfl (q_bin rfl rfl (remT (by omega))) ?_  -- outright.go:54
        refine steps_q rfl (q_assign rfl) ?_  -- outright.go:54
        refine steps_nil ?_
        refine cw_join (S := Int) (fun k => [(0, .slice (some ⟨bl, off, none⟩) ps.length c0), (5, .pointer (some ⟨b5, 0, none⟩)), (7, .int .i64 k)]) (fun k => [(5, (b5, .cells (Nr.l ⟨(nrOf (sel ps own)).n, (nrOf (sel ps own)).d, .slice (some ⟨g, 0, none⟩) own.length cap⟩).toArray 31 (0, 0)))]) (fun k => 0 ≤ k ∧ k < ps.length) ?_ ?_
        · -- until join 2
          refine cw_sr ?_
          refine steps_q rfl (q_move rfl) ?_  -- outright.go:55
          refine steps_q rfl (q_bin rfl rfl rfl) ?_  -- outright.go:55
          refine steps_nil ?_
          refine cw_cond _ rfl (fun hc2 => ?_) (fun hc2 => ?_)
          · -- yes 2
            have hneg : turn.tmod ps.length < 0 := of_decide_eq_true hc2
            refine cw_region ?_
            refine steps_q rfl (q_move rfl) ?_  -- outright.go:56
            refine steps_q rfl (q_move rfl) ?_  -- outright.go:56
            refine steps_q rfl (q_lenSl Try.underlying22 rfl) ?_  -- outright.go:56
            refine steps_q rfl (q_bin rfl rfl (add64 (by omega) (by omega))) ?_  -- outright.go:56
            refine steps_q rfl (q_assign rfl) ?_  -- outright.go:56
            refine steps_nil ?_
            exact at_join (turn.tmod ps.length + ps.length) ⟨by omega, by omega⟩ (subs ⟨rfl, rfl, rfl, trivial⟩) (subs ⟨rfl, trivial⟩)
          · -- no 2
            have hneg : ¬ turn.tmod ps.length < 0 := of_decide_eq_false hc2
            refine cw_skip ?_
            exact at_join (turn.tmod ps.length) ⟨by omega, by omega⟩ (subs ⟨rfl, rfl, rfl, trivial⟩) (subs ⟨rfl, trivial⟩)
        · -- behind join 2
          rintro k ⟨k0, k1⟩
          have her := errG_rot he k0 k1
          have hkn : k.toNat < ps.length := by omega
          refine cw_sd mixed [1, 2, 3, 5, 6, 7] 4 (without _ [61]) (by kernel_rfl) (sub_without _ _) ?_
          refine qi_q rfl rfl (q_move rfl) ?_  -- outright.go:58
          refine qi_q rfl rfl (q_move rfl) ?_  -- outright.go:58
          refine qi_q rfl rfl (q_slLo slc22 rfl rfl k0 k1 hcap) ?_  -- outright.go:58
          refine qi_q rfl rfl (q_move rfl) ?_  -- outright.go:58
          refine qi_q rfl rfl (q_move rfl) ?_  -- outright.go:58
          refine qi_q rfl rfl (q_slHi slc22 rfl rfl k0 (by omega)) ?_  -- outright.go:58
          refine qi_nil ?_
          refine tail_one 0 (by kernel_rfl) rfl rfl (s_buildSl 61 (vs := []) rfl rfl rfl (l := []) (e := 38) (fun w => by kernel_rfl) fun b38 => ⟨(subl_cons rfl (sub_without _ _)), ?_⟩)  -- outright.go:58
          refine tail_one 4 (by kernel_rfl) rfl rfl (s_appendM 61 (some (b38, [], 0)) 0 (ps.length - k.toNat) [] ((ps.drop k.toNat).map Pt.l) rfl (by simp) elt22 rfl rfl ⟨rfl, Nat.le_refl _, Nat.zero_le _, rfl, fun y hy => nomatch hy⟩ (subs ⟨rfl, trivial⟩) rfl (fun w' hw => ⟨l, fz, (hw.below.block bl hblt).trans hb, told_drop hpt k.toNat⟩) (fun x hx => by obtain ⟨y, _, rfl⟩ := List.mem_map.1 hx; rfl) (by omega) (by unfold maxLen; omega) (by omega) fun g2 cur2 cap2 hk => ⟨(subl_cons rfl (subl_cons rfl (sub_without _ _))), ?_⟩)  -- outright.go:58
          refine tail_one 8 (by kernel_rfl) rfl rfl (s_appendM 61 (some (g2, cur2, cap2)) (0 + (ps.length - k.toNat)) k.toNat ([] ++ (ps.drop k.toNat).map Pt.l) ((ps.take k.toNat).map Pt.l) (by simp) (by simp; omega) elt22 rfl rfl hk (subs ⟨rfl, trivial⟩) rfl (fun w' hw => ⟨l, fz, (hw.below.block bl hblt).trans hb, told_take hpt k.toNat⟩) (fun x hx => by obtain ⟨y, _, rfl⟩ := List.mem_map.1 hx; rfl) (by omega) (by unfold maxLen; omega) (by omega) fun g3 cur3 cap3 hk3 => ⟨(subl_cons rfl (subl_cons rfl (subl_cons rfl (sub_without _ _)))), ?_⟩)  -- outright.go:58
          refine tail_quiet 9 (by kernel_rfl) rfl rfl rfl (q_assign rfl) ?_  -- outright.go:58
          refine tail_nil (by kernel_rfl) ?_
          have hk4 : SV.ok 3 (some (g3, cur3, cap3)) ((rotI ps k).map Pt.l) := by simpa [rotI] using hk3
          have hrl := rotI_len ps k0 k1
          refine cw_sr ?_
          refine steps_q rfl (q_move rfl) ?_  -- outright.go:59
          refine steps_s (s_near her rfl rfl rfl (fun w' hw => told_rot hw rfl hk4 (by omega)) fun own2 g4 cur4 cap4 hE2 hsv2 => ?_)  -- outright.go:59
          have hf2 := ends_fits (errG_ok.1 her).1 hE2
          have hsame := nr_same hE hE2 (fun q hq => rotI_mem.2 hq) (fun q hq => hE.2 q (rotI_mem.1 hq))
          refine steps_q rfl (q_move rfl) ?_  -- outright.go:59
          refine steps_q rfl (q_extract rfl rfl) ?_  -- outright.go:59
          refine steps_q rfl (q_extract rfl rfl) ?_  -- outright.go:59
          refine steps_s (s_allocA 9 rfl zer31 fun b9 => ?_)  -- outright.go:59
          refine steps_s (s_storeW 9 siz31 rfl rfl rfl rfl rfl rfl ?_)  -- outright.go:59
          refine steps_q rfl (q_assign rfl) ?_  -- outright.go:59
          refine steps_nil ?_
          refine cw_seq ?_
          refine cw_sr ?_
          refine steps_q rfl (q_move rfl) ?_  -- outright.go:60
          refine steps_q rfl (q_bin rfl rfl (neq_f rfl)) ?_  -- outright.go:60
          refine steps_q rfl (q_move rfl) ?_  -- outright.go:60
          refine steps_gq rfl rfl rfl (q_loadW 5 agg31 rfl rfl rfl) ?_  -- outright.go:60
          refine steps_gq rfl rfl rfl (q_loadW 9 agg31 rfl rfl rfl) ?_  -- outright.go:60
          refine steps_gq rfl rfl rfl (q_pure ent8 rfl (law_same_nr hsame hf)) ?_  -- outright.go:60
          refine steps_gq rfl rfl rfl (q_not rfl rfl) ?_  -- outright.go:60
          refine steps_q rfl (q_pick_f rfl rfl) ?_  -- outright.go:60
          refine steps_nil ?_
          refine cw_cond _ rfl (fun hc3 => ?_) (fun hc3 => ?_)
          · cases hc3
          · -- no 3
            refine cw_skip ?_
            refine at_then ?_
            obtain ⟨pb, pk⟩ : ∃ q, ps[k.toNat]? = some q := ⟨_, List.getElem?_eq_getElem hkn⟩
            obtain ⟨pa, p0⟩ : ∃ q, ps[(0 : Int).toNat]? = some q := ⟨_, List.getElem?_eq_getElem (show (0 : Int).toNat < ps.length by simp; omega)⟩
            have pkl : (ps.map Pt.l)[k.toNat]? = some pb.l := by rw [List.getElem?_map, pk]; rfl
            have p0l : (ps.map Pt.l)[(0 : Int).toNat]? = some pa.l := by rw [List.getElem?_map, p0]; rfl
            have ik := hok _ (List.mem_of_getElem? pk)
            have i0 := hok _ (List.mem_of_getElem? p0)
            refine cw_join (S := Nat × Nat) (fun (b11, b12) => [(5, .pointer (some ⟨b5, 0, none⟩)), (8, .slice (some ⟨g3, 0, none⟩) (0 + (ps.length - k.toNat) + k.toNat) cap3), (11, .pointer (some ⟨b11, 0, none⟩)), (12, .pointer (some ⟨b12, 0, none⟩))]) (fun (b11, b12) => [(5, (b5, .cells (Nr.l ⟨(nrOf (sel ps own)).n, (nrOf (sel ps own)).d, .slice (some ⟨g, 0, none⟩) own.length cap⟩).toArray 31 (0, 0))), (61, (g3, .cells cur3.toArray 38 (0, 0))), (11, (b11, .cells pa.l.toArray 38 (0, 0))), (12, (b12, .cells pb.l.toArray 38 (0, 0)))]) (fun (b11, b12) => True) ?_ ?_
            · -- the orders of region 11
              refine cw_draw mixed [0, 1, 2, 3, 4, 5, 6] 4 (without _ [11, 12]) (by kernel_rfl) (sub_without _ _) ?_
              refine qi_q rfl rfl (q_move rfl) ?_  -- outright.go:63
              refine qi_q rfl rfl (q_indexSl slc22 rfl rfl (Int.le_refl 0) (by omega)) ?_  -- outright.go:63
              refine qi_q rfl rfl (q_loadAo agg38 rfl hb (by simp) (hpt _ _ p0l)) ?_  -- outright.go:63
              refine qi_q rfl rfl (q_move rfl) ?_  -- outright.go:63
              refine qi_q rfl rfl (q_move rfl) ?_  -- outright.go:63
              refine qi_q rfl rfl (q_indexSl slc22 rfl rfl k0 k1) ?_  -- outright.go:63
              refine qi_q rfl rfl (q_loadAo agg38 rfl hb (by simp) (hpt _ _ pkl)) ?_  -- outright.go:63
              refine qi_nil ?_
              refine tail_alloc2 7 8 (by kernel_rfl) rfl rfl zer38 rfl zer38 rfl (sub_without _ _) rfl rfl (fun h => At.weaken h) fun b11 b12 => ?_
              refine tail_one 9 (by kernel_rfl) rfl rfl (s_storeW 11 siz38 rfl rfl rfl rfl rfl rfl ⟨(subl_cons rfl (subl_cons rfl (subl_cons rfl (sub_without _ _)))), ?_⟩)  -- outright.go:63
              refine tail_one 10 (by kernel_rfl) rfl rfl (s_storeW 12 siz38 rfl rfl rfl rfl rfl rfl ⟨(subl_cons rfl (subl_cons rfl (subl_cons rfl (subl_cons rfl (sub_without _ _))))), ?_⟩)  -- outright.go:63
              refine tail_nil (by kernel_rfl) ?_
              exact at_join (b11, b12) (trivial) (subs ⟨rfl, rfl, rfl, rfl, trivial⟩) (subs ⟨rfl, rfl, rfl, rfl, trivial⟩)
            · -- behind region 11
              rintro ⟨b11, b12⟩ -
              conv => enter [7]; dsimp only
              conv => enter [8]; dsimp only
              refine cw_seq ?_
              obtain ⟨⟨ax0, ax1⟩, ⟨ay0, ay1⟩, ⟨az0, az1⟩⟩ := i0
              obtain ⟨⟨bx0, bx1⟩, ⟨by0, by1⟩, ⟨bz0, bz1⟩⟩ := ik
              have hways : (pa.x + pb.x).tmod 2 ≠ 0 ∨ ((pa.x + pb.x).tmod 2 = 0 ∧ (pa.y + pb.y).tmod 2 ≠ 0) ∨ ((pa.x + pb.x).tmod 2 = 0 ∧ (pa.y + pb.y).tmod 2 = 0 ∧ (pa.z + pb.z).tmod 2 ≠ 0) ∨ ((pa.x + pb.x).tmod 2 = 0 ∧ (pa.y + pb.y).tmod 2 = 0 ∧ (pa.z + pb.z).tmod 2 = 0) := by omega
              rcases hways with wx | ⟨wx, wy⟩ | ⟨wx, wy, wz⟩ | ⟨wx, wy, wz⟩
              · -- way 12.a
                refine cw_sr ?_
                refine steps_q rfl (q_field fld38_0 rfl) ?_  -- outright.go:64
                refine steps_q rfl (q_load1 11 one2 rfl rfl rfl) ?_  -- outright.go:64
                refine steps_q rfl (q_field fld38_0 rfl) ?_  -- outright.go:64
                refine steps_q rfl (q_load1 12 one2 rfl rfl rfl) ?_  -- outright.go:64
                refine steps_q rfl (q_bin rfl rfl (add64 (by omega) (by omega))) ?_  -- outright.go:64
                refine steps_q rfl (q_bin rfl rfl (remT (by decide))) ?_  -- outright.go:64
                refine steps_q rfl (q_bin rfl rfl (neq_t wx)) ?_  -- outright.go:64
                refine steps_q rfl (q_move rfl) ?_  -- outright.go:64
                refine steps_gn rfl rfl rfl rfl ?_  -- outright.go:64
                refine steps_gn rfl rfl rfl rfl ?_  -- outright.go:64
                refine steps_gn rfl rfl rfl rfl ?_  -- outright.go:64
                refine steps_gn rfl rfl rfl rfl ?_  -- outright.go:64
                refine steps_gn rfl rfl rfl rfl ?_  -- outright.go:64
                refine steps_gn rfl rfl rfl rfl ?_  -- outright.go:64
                refine steps_gn rfl rfl rfl rfl ?_  -- outright.go:64
                refine steps_q rfl (q_pick_t rfl rfl) ?_  -- outright.go:64
                refine steps_q rfl (q_move rfl) ?_  -- outright.go:64
                refine steps_gn rfl rfl rfl rfl ?_  -- outright.go:64
                refine steps_gn rfl rfl rfl rfl ?_  -- outright.go:64
                refine steps_gn rfl rfl rfl rfl ?_  -- outright.go:64
                refine steps_gn rfl rfl rfl rfl ?_  -- outright.go:64
                refine steps_gn rfl rfl rfl rfl ?_  -- outright.go:64
                refine steps_gn rfl rfl rfl rfl ?_  -- outright.go:64
                refine steps_gn rfl rfl rfl rfl ?_  -- outright.go:64
                refine steps_q rfl (q_pick_t rfl rfl) ?_  -- outright.go:64
                refine steps_nil ?_
                refine cw_cond _ rfl (fun hc4 => ?_) (fun hc4 => ?_)
                · -- yes 4
                  refine cw_sr ?_
                  refine steps_q rfl (q_pure ent7 rfl law_awake) ?_  -- outright.go:65
                  refine steps_q rfl (q_assign rfl) ?_  -- outright.go:65
                  refine steps_nil ?_
                  refine cw_ret ?_
                  exact ret_pure rfl (rv_tmp rfl rv_nil) rfl
                · cases hc4
              · -- way 12.b
                refine cw_sr ?_
                refine steps_q rfl (q_field fld38_0 rfl) ?_  -- outright.go:64
                refine steps_q rfl (q_load1 11 one2 rfl rfl rfl) ?_  -- outright.go:64
                refine steps_q rfl (q_field fld38_0 rfl) ?_  -- outright.go:64
                refine steps_q rfl (q_load1 12 one2 rfl rfl rfl) ?_  -- outright.go:64
                refine steps_q rfl (q_bin rfl rfl (add64 (by omega) (by omega))) ?_  -- outright.go:64
                refine steps_q rfl (q_bin rfl rfl (remT (by decide))) ?_  -- outright.go:64
                refine steps_q rfl (q_bin rfl rfl (neq_f wx)) ?_  -- outright.go:64
                refine steps_q rfl (q_move rfl) ?_  -- outright.go:64
                refine steps_gq rfl rfl rfl (q_field fld38_1 rfl) ?_  -- outright.go:64
                refine steps_gq rfl rfl rfl (q_load1 11 one2 rfl rfl rfl) ?_  -- outright.go:64
                refine steps_gq rfl rfl rfl (q_field fld38_1 rfl) ?_  -- outright.go:64
                refine steps_gq rfl rfl rfl (q_load1 12 one2 rfl rfl rfl) ?_  -- outright.go:64
                refine steps_gq rfl rfl rfl (q_bin rfl rfl (add64 (by omega) (by omega))) ?_  -- outright.go:64
                refine steps_gq rfl rfl rfl (q_bin rfl rfl (remT (by decide))) ?_  -- outright.go:64
                refine steps_gq rfl rfl rfl (q_bin rfl rfl (neq_t wy)) ?_  -- outright.go:64
                refine steps_q rfl (q_pick_f rfl rfl) ?_  -- outright.go:64
                refine steps_q rfl (q_move rfl) ?_  -- outright.go:64
                refine steps_gn rfl rfl rfl rfl ?_  -- outright.go:64
                refine steps_gn rfl rfl rfl rfl ?_  -- outright.go:64
                refine steps_gn rfl rfl rfl rfl ?_  -- outright.go:64
                refine steps_gn rfl rfl rfl rfl ?_  -- outright.go:64
                refine steps_gn rfl rfl rfl rfl ?_  -- outright.go:64
                refine steps_gn rfl rfl rfl rfl ?_  -- outright.go:64
                refine steps_gn rfl rfl rfl rfl ?_  -- outright.go:64
                refine steps_q rfl (q_pick_t rfl rfl) ?_  -- outright.go:64
                refine steps_nil ?_
                refine cw_cond _ rfl (fun hc4 => ?_) (fun hc4 => ?_)
                · -- yes 4
                  refine cw_sr ?_
                  refine steps_q rfl (q_pure ent7 rfl law_awake) ?_  -- outright.go:65
                  refine steps_q rfl (q_assign rfl) ?_  -- outright.go:65
                  refine steps_nil ?_
                  refine cw_ret ?_
                  exact ret_pure rfl (rv_tmp rfl rv_nil) rfl
                · cases hc4
              · -- way 12.c
                refine cw_sr ?_
                refine steps_q rfl (q_field fld38_0 rfl) ?_  -- outright.go:64
                refine steps_q rfl (q_load1 11 one2 rfl rfl rfl) ?_  -- outright.go:64
                refine steps_q rfl (q_field fld38_0 rfl) ?_  -- outright.go:64
                refine steps_q rfl (q_load1 12 one2 rfl rfl rfl) ?_  -- outright.go:64
                refine steps_q rfl (q_bin rfl rfl (add64 (by omega) (by omega))) ?_  -- outright.go:64
                refine steps_q rfl (q_bin rfl rfl (remT (by decide))) ?_  -- outright.go:64
                refine steps_q rfl (q_bin rfl rfl (neq_f wx)) ?_  -- outright.go:64
                refine steps_q rfl (q_move rfl) ?_  -- outright.go:64
                refine steps_gq rfl rfl rfl (q_field fld38_1 rfl) ?_  -- outright.go:64
                refine steps_gq rfl rfl rfl (q_load1 11 one2 rfl rfl rfl) ?_  -- outright.go:64
                refine steps_gq rfl rfl rfl (q_field fld38_1 rfl) ?_  -- outright.go:64
                refine steps_gq rfl rfl rfl (q_load1 12 one2 rfl rfl rfl) ?_  -- outright.go:64
                refine steps_gq rfl rfl rfl (q_bin rfl rfl (add64 (by omega) (by omega))) ?_  -- outright.go:64
                refine steps_gq rfl rfl rfl (q_bin rfl rfl (remT (by decide))) ?_  -- outright.go:64
                refine steps_gq rfl rfl rfl (q_bin rfl rfl (neq_f wy)) ?_  -- outright.go:64
                refine steps_q rfl (q_pick_f rfl rfl) ?_  -- outright.go:64
                refine steps_q rfl (q_move rfl) ?_  -- outright.go:64
                refine steps_gq rfl rfl rfl (q_field fld38_2 rfl) ?_  -- outright.go:64
                refine steps_gq rfl rfl rfl (q_load1 11 one2 rfl rfl rfl) ?_  -- outright.go:64
                refine steps_gq rfl rfl rfl (q_field fld38_2 rfl) ?_  -- outright.go:64
                refine steps_gq rfl rfl rfl (q_load1 12 one2 rfl rfl rfl) ?_  -- outright.go:64
                refine steps_gq rfl rfl rfl (q_bin rfl rfl (add64 (by omega) (by omega))) ?_  -- outright.go:64
                refine steps_gq rfl rfl rfl (q_bin rfl rfl (remT (by decide))) ?_  -- outright.go:64
                refine steps_gq rfl rfl rfl (q_bin rfl rfl (neq_t wz)) ?_  -- outright.go:64
                refine steps_q rfl (q_pick_f rfl rfl) ?_  -- outright.go:64
                refine steps_nil ?_
                refine cw_cond _ rfl (fun hc4 => ?_) (fun hc4 => ?_)
                · -- yes 4
                  refine cw_sr ?_
                  refine steps_q rfl (q_pure ent7 rfl law_awake) ?_  -- outright.go:65
                  refine steps_q rfl (q_assign rfl) ?_  -- outright.go:65
                  refine steps_nil ?_
                  refine cw_ret ?_
                  exact ret_pure rfl (rv_tmp rfl rv_nil) rfl
                · cases hc4
              · -- way 12.d
                refine cw_sr ?_
                refine steps_q rfl (q_field fld38_0 rfl) ?_  -- outright.go:64
                refine steps_q rfl (q_load1 11 one2 rfl rfl rfl) ?_  -- outright.go:64
                refine steps_q rfl (q_field fld38_0 rfl) ?_  -- outright.go:64
                refine steps_q rfl (q_load1 12 one2 rfl rfl rfl) ?_  -- outright.go:64
                refine steps_q rfl (q_bin rfl rfl (add64 (by omega) (by omega))) ?_  -- outright.go:64
                refine steps_q rfl (q_bin rfl rfl (remT (by decide))) ?_  -- outright.go:64
                refine steps_q rfl (q_bin rfl rfl (neq_f wx)) ?_  -- outright.go:64
                refine steps_q rfl (q_move rfl) ?_  -- outright.go:64
                refine steps_gq rfl rfl rfl (q_field fld38_1 rfl) ?_  -- outright.go:64
                refine steps_gq rfl rfl rfl (q_load1 11 one2 rfl rfl rfl) ?_  -- outright.go:64
                refine steps_gq rfl rfl rfl (q_field fld38_1 rfl) ?_  -- outright.go:64
                refine steps_gq rfl rfl rfl (q_load1 12 one2 rfl rfl rfl) ?_  -- outright.go:64
                refine steps_gq rfl rfl rfl (q_bin rfl rfl (add64 (by omega) (by omega))) ?_  -- outright.go:64
                refine steps_gq rfl rfl rfl (q_bin rfl rfl (remT (by decide))) ?_  -- outright.go:64
                refine steps_gq rfl rfl rfl (q_bin rfl rfl (neq_f wy)) ?_  -- outright.go:64
                refine steps_q rfl (q_pick_f rfl rfl) ?_  -- outright.go:64
                refine steps_q rfl (q_move rfl) ?_  -- outright.go:64
                refine steps_gq rfl rfl rfl (q_field fld38_2 rfl) ?_  -- outright.go:64
                refine steps_gq rfl rfl rfl (q_load1 11 one2 rfl rfl rfl) ?_  -- outright.go:64
                refine steps_gq rfl rfl rfl (q_field fld38_2 rfl) ?_  -- outright.go:64
                refine steps_gq rfl rfl rfl (q_load1 12 one2 rfl rfl rfl) ?_  -- outright.go:64
                refine steps_gq rfl rfl rfl (q_bin rfl rfl (add64 (by omega) (by omega))) ?_  -- outright.go:64
                refine steps_gq rfl rfl rfl (q_bin rfl rfl (remT (by decide))) ?_  -- outright.go:64
                refine steps_gq rfl rfl rfl (q_bin rfl rfl (neq_f wz)) ?_  -- outright.go:64
                refine steps_q rfl (q_pick_f rfl rfl) ?_  -- outright.go:64
                refine steps_nil ?_
                refine cw_cond _ rfl (fun hc4 => ?_) (fun hc4 => ?_)
                · cases hc4
                · -- no 4
                  refine cw_skip ?_
                  refine at_then ?_
                  obtain ⟨mx, hmx⟩ := even_of wx
                  obtain ⟨my, hmy⟩ := even_of wy
                  obtain ⟨mz, hmz⟩ := even_of wz
                  have hm : (⟨mx, my, mz⟩ : Pt).In 268435456 := ⟨⟨by dsimp only; omega, by dsimp only; omega⟩, ⟨by dsimp only; omega, by dsimp only; omega⟩, ⟨by dsimp only; omega, by dsimp only; omega⟩⟩
                  have hem := errG_more her (by omega) hm
                  refine cw_sr ?_
                  refine steps_q rfl (q_move rfl) ?_  -- outright.go:67
                  refine steps_q rfl (q_field fld38_0 rfl) ?_  -- outright.go:67
                  refine steps_q rfl (q_load1 11 one2 rfl rfl rfl) ?_  -- outright.go:67
                  refine steps_q rfl (q_field fld38_0 rfl) ?_  -- outright.go:67
                  refine steps_q rfl (q_load1 12 one2 rfl rfl rfl) ?_  -- outright.go:67
                  refine steps_q rfl (q_bin rfl rfl (add64 (by omega) (by omega))) ?_  -- outright.go:67
                  refine steps_q rfl (q_bin rfl rfl (quo2 hmx (by omega) (by omega))) ?_  -- outright.go:67
                  refine steps_q rfl (q_field fld38_1 rfl) ?_  -- outright.go:67
                  refine steps_q rfl (q_load1 11 one2 rfl rfl rfl) ?_  -- outright.go:67
                  refine steps_q rfl (q_field fld38_1 rfl) ?_  -- outright.go:67
                  refine steps_q rfl (q_load1 12 one2 rfl rfl rfl) ?_  -- outright.go:67
                  refine steps_q rfl (q_bin rfl rfl (add64 (by omega) (by omega))) ?_  -- outright.go:67
                  refine steps_q rfl (q_bin rfl rfl (quo2 hmy (by omega) (by omega))) ?_  -- outright.go:67
                  refine steps_q rfl (q_field fld38_2 rfl) ?_  -- outright.go:67
                  refine steps_q rfl (q_load1 11 one2 rfl rfl rfl) ?_  -- outright.go:67
                  refine steps_q rfl (q_field fld38_2 rfl) ?_  -- outright.go:67
                  refine steps_q rfl (q_load1 12 one2 rfl rfl rfl) ?_  -- outright.go:67
                  refine steps_q rfl (q_bin rfl rfl (add64 (by omega) (by omega))) ?_  -- outright.go:67
                  refine steps_q rfl (q_bin rfl rfl (quo2 hmz (by omega) (by omega))) ?_  -- outright.go:67
                  refine steps_q rfl (q_build (vs := [(0, _), (1, _), (2, _)]) rfl rfl (bldP ⟨mx, my, mz⟩)) ?_  -- outright.go:67
                  refine steps_s (s_buildSl 114 rfl rfl rfl (bslP ⟨mx, my, mz⟩) fun b114 => ?_)  -- outright.go:67
                  refine steps_s (s_appendN 61 114 (some (g3, cur3, cap3)) (0 + (ps.length - k.toNat) + k.toNat) ((rotI ps k).map Pt.l) (⟨mx, my, mz⟩ : Pt).l (by rw [List.length_map]; omega) elt22 rfl rfl hk4 (subs ⟨rfl, trivial⟩) rfl rfl rfl rfl (by omega) (by unfold maxLen; omega) fun g5 cur5 cap5 hk5 => ?_)  -- outright.go:67
                  refine steps_s (s_near hem rfl rfl rfl (fun w' hw => told_more hw rfl hk5 (by omega)) fun own3 g6 cur6 cap6 hE3 hsv3 => ?_)  -- outright.go:67
                  refine steps_q rfl (q_move rfl) ?_  -- outright.go:67
                  refine steps_q rfl (q_extract rfl rfl) ?_  -- outright.go:67
                  refine steps_q rfl (q_extract rfl rfl) ?_  -- outright.go:67
                  refine steps_s (s_allocA 13 rfl zer31 fun b13 => ?_)  -- outright.go:67
                  refine steps_s (s_storeW 13 siz31 rfl rfl rfl rfl rfl rfl ?_)  -- outright.go:67
                  refine steps_q rfl (q_assign rfl) ?_  -- outright.go:67
                  refine steps_nil ?_
                  have hf3 := ends_fits (errG_ok.1 hem).1 hE3
                  have hsame3 := nr_same hE hE3 (fun q hq => List.mem_append_left _ (rotI_mem.2 hq)) (fun q hq => by
                    rcases List.mem_append.1 hq with h | h
                    · exact hE.2 q (rotI_mem.1 h)
                    · rw [List.mem_singleton.1 h]; exact mid_ahead hE.2 (List.mem_of_getElem? p0) (List.mem_of_getElem? pk) hmx hmy hmz)
                  refine cw_sr ?_
                  refine steps_q rfl (q_move rfl) ?_  -- outright.go:68
                  refine steps_q rfl (q_bin rfl rfl (eql_t rfl)) ?_  -- outright.go:68
                  refine steps_q rfl (q_move rfl) ?_  -- outright.go:68
                  refine steps_gq rfl rfl rfl (q_loadW 5 agg31 rfl rfl rfl) ?_  -- outright.go:68
                  refine steps_gq rfl rfl rfl (q_loadW 13 agg31 rfl rfl rfl) ?_  -- outright.go:68
                  refine steps_gq rfl rfl rfl (q_pure ent8 rfl (law_same_nr hsame3 hf)) ?_  -- outright.go:68
                  refine steps_q rfl (q_pick_t rfl rfl) ?_  -- outright.go:68
                  refine steps_q rfl (q_move rfl) ?_  -- outright.go:68
                  refine steps_gq rfl rfl rfl (q_pure ent7 rfl law_awake) ?_  -- outright.go:68
                  refine steps_q rfl (q_pick_t rfl rfl) ?_  -- outright.go:68
                  refine steps_q rfl (q_assign rfl) ?_  -- outright.go:68
                  refine steps_nil ?_
                  refine cw_ret ?_
                  exact ret_pure rfl (rv_tmp rfl rv_nil) rfl
    · skip
      refine cw_sr ?_
      refine steps_q rfl (q_assign rfl) ?_  -- outright.go:49
      refine steps_nil ?_
      refine cw_sr ?_
      refine steps_q rfl (q_move rfl) ?_  -- outright.go:50
      refine steps_s (s_near he rfl rfl rfl (fun w' hw => SlAt.st hv0 hw) fun own g cur cap hE hsv => ?_)  -- outright.go:50
      refine steps_q rfl (q_move rfl) ?_  -- outright.go:50
      refine steps_q rfl (q_extract rfl rfl) ?_  -- outright.go:50
      refine steps_q rfl (q_extract rfl rfl) ?_  -- outright.go:50
      refine steps_s (s_allocA 5 rfl zer31 fun b5 => ?_)  -- outright.go:50
      refine steps_s (s_storeW 5 siz31 rfl rfl rfl rfl rfl rfl ?_)  -- outright.go:50
      refine steps_q rfl (q_assign rfl) ?_  -- outright.go:50
      refine steps_nil ?_
      refine cw_seq ?_
      refine cw_sr ?_
      refine steps_q rfl (q_move rfl) ?_  -- outright.go:51
      refine steps_q rfl (q_bin rfl rfl (neq_f rfl)) ?_  -- outright.go:51
      refine steps_q rfl (q_move rfl) ?_  -- outright.go:51
      refine steps_gq rfl rfl rfl (q_move rfl) ?_  -- outright.go:51
      refine steps_gq rfl rfl rfl (q_lenSl Try.underlying22 rfl) ?_  -- outright.go:51
      refine steps_gq rfl rfl rfl (q_bin rfl rfl (gtr_t (by omega))) ?_  -- outright.go:51
      refine steps_q rfl (q_pick_f rfl rfl) ?_  -- outright.go:51
      refine steps_nil ?_
      refine cw_cond _ rfl (fun hc1 => ?_) (fun hc1 => ?_)
      · -- yes 1
        refine cw_sr ?_
        refine steps_q rfl (q_pure ent7 rfl law_awake) ?_  -- outright.go:52
        refine steps_q rfl (q_assign rfl) ?_  -- outright.go:52
        refine steps_nil ?_
        refine cw_ret ?_
        exact ret_pure rfl (rv_tmp rfl rv_nil) rfl
      · cases hc1
  · skip
    refine cw_sr ?_
    refine steps_q rfl (q_assign rfl) ?_  -- outright.go:49
    refine steps_nil ?_
    refine cw_sr ?_
    refine steps_q rfl (q_move rfl) ?_  -- outright.go:50
    refine steps_q rfl (q_call ent6 rfl rfl (fun w' hw => by simpa using gjk_Near_bad w' (SlAt.st hv0 hw) hl he)) ?_  -- outright.go:50
    refine steps_q rfl (q_move rfl) ?_  -- outright.go:50
    refine steps_q rfl (q_extract rfl rfl) ?_  -- outright.go:50
    refine steps_q rfl (q_extract rfl rfl) ?_  -- outright.go:50
    refine steps_s (s_allocA 5 rfl zer31 fun b5 => ?_)  -- outright.go:50
    refine steps_s (s_storeW 5 siz31 rfl rfl rfl rfl rfl rfl ?_)  -- outright.go:50
    refine steps_q rfl (q_assign rfl) ?_  -- outright.go:50
    refine steps_nil ?_
    refine cw_seq ?_
    refine cw_sr ?_
    refine steps_q rfl (q_move rfl) ?_  -- outright.go:51
    refine steps_q rfl (q_bin rfl rfl (neq_t he)) ?_  -- outright.go:51
    refine steps_q rfl (q_move rfl) ?_  -- outright.go:51
    refine steps_gn rfl rfl rfl rfl ?_  -- outright.go:51
    refine steps_gn rfl rfl rfl rfl ?_  -- outright.go:51
    refine steps_gn rfl rfl rfl rfl ?_  -- outright.go:51
    refine steps_q rfl (q_pick_t rfl rfl) ?_  -- outright.go:51
    refine steps_nil ?_
    refine cw_cond _ rfl (fun hc1 => ?_) (fun hc1 => ?_)
    · -- yes 1
      refine cw_sr ?_
      refine steps_q rfl (q_pure ent7 rfl law_awake) ?_  -- outright.go:52
      refine steps_q rfl (q_assign rfl) ?_  -- outright.go:52
      refine steps_nil ?_
      refine cw_ret ?_
      exact ret_pure rfl (rv_tmp rfl rv_nil) rfl
    · cases hc1
end Go.Proofs.Ytomdahjakkifbaa

/-
  With the points in another order, and with the middle of two of them, if it is a point, the nearest one is the same: GjkSame answers true and leaves its arguments alone.
  No condition: every input.
-/
namespace Go.Proofs.Ytomdahjakkifbaa
open Go Go.NP Go.RowKit Go.Proofs Go.ChangeShapes Go.WideShapes Go.ChangeAt
set_option maxRecDepth 100000

theorem gjkSame_lifted (os : Os) (started : os.Started) (H : Type) (enc : TypeId × Value → H) :
    ReturnsInHanded {} Try.checked os 3 .any (Rows.gjkSameSpec.pre6 enc Try.prog Try.f3 Rows.gjkSameRow.domain false) (Rows.gjkSameSpec.post enc Try.prog Try.f3 false true false false) := by
  refine returnsInHanded_of_change (C := Try.checked) Try.own started (by kernel_rfl) Try.func3
    (ChangeSpec.witness6 (enc := enc) (C := Try.checked) false ⟨#[], #[.slice none 0 0, .int .i64 0], []⟩ 8 (by kernel_rfl) (by kernel_rfl) (by kernel_rfl) (by kernel_rfl)) ?_
  intro W base args ds gs before hval0 hW hcnd _
  have hval : ∀ (j : Nat) t v, Try.f3.params[j]? = some t → args[j]? = some v → Value.okWide Try.prog W .any base t v := hval0
  have hW' := hW
  obtain ⟨p, q, hA0, hV, rfl, hfz, hnd⟩ := hW
  have hA : DataW.TrodAll enc Try.prog W 0 (fun _ => true) true Try.f3.params.toList args.toList ds p := hA0
  have hAk := hA
  rw [Try.params3] at hA hval
  obtain ⟨v0, v1, d0, d1, p0, p1, rfl, rfl, rfl, h0, h1⟩ := trodAll_two hA
  obtain ⟨l, a, c, rfl, hc, hl, hlen⟩ := open_ptsC (okWide_slice Try.underlying22 (hval 0 22 v0 rfl rfl)) h0
  obtain ⟨n, rfl, rfl, rfl, _⟩ := open_int Try.underlying3 (hval 1 3 v1 rfl rfl) h1
  obtain ⟨rfl, rfl⟩ := trodVars_none hV
  clear hA0 hval0
  simp only [List.append_nil] at hW' hAk
  refine (law_GjkSame W hl hc hlen).mono fun e W' ⟨he, hw⟩ => ?_
  subst he
  exact ⟨_, rfl, law_post (tb := 4) Try.laidOut rfl Try.underlying4 (by kernel_rfl) hW' hAk (by rw [Try.params3]; intro t ht; simp at ht; rcases ht with rfl | rfl <;> exact ⟨by kernel_rfl, of_decide_eq_true (by kernel_rfl)⟩) rfl hw⟩

theorem gjkSame_holds : Rows.GjkSameSaid :=
  OpenClaim.holds_of_wide 3 Try.f3 rfl rfl rfl rfl rfl rfl rfl ⟨rfl, rfl, rfl, rfl, rfl⟩ rfl rfl rfl rfl rfl (by kernel_rfl) Try.func3 (by kernel_rfl)
    (of_decide_eq_true (by kernel_rfl)) (by unfold Func.isWrapper; first | (rw [if_pos (by decide +kernel)]; kernel_rfl) | (rw [if_neg (by decide +kernel)]; exact ⟨rfl, rfl⟩))
    (fun os started H enc _ => gjkSame_lifted os started H enc)
end Go.Proofs.Ytomdahjakkifbaa
