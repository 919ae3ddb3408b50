/-
  The nearest of the differences, the other way round, is the opposite point, moving both lists alike changes nothing, lists that have one point meet, and those whose bounds do not meet do not: GjkBoth answers true and leaves its arguments alone.
  No condition: every input.
-/
import Derived.Test.YtomdahjakkifbaaGreatPg

/-
  The walks of package bound, as far as GjkBoth asks them: the least bound of points, and whether two meet.
-/
namespace Go.NP
open Go Go.RowKit
section
variable {P : Program} {w0 : World} {M : List Nat} {N : Nat} {D : Dfr} {T : TL} {L : HL}
theorem q_min2 {d : Option Tmp} {x y : Operand} {ts : Array TypeId} {k k' : IntKind} {m n : Int} {t' : TypeId} {p : String} {af : Array Edge} {g : Option (Nat × Bool)}
    (hx : ev T x = some (.int k m)) (hy : ev T y = some (.int k' n)) :
    Quiet P w0 M N D { dst := d, op := .call { callee := .builtin .min, args := #[x, y], argTypes := ts }, type := t', pos := p, after := af, guard := g } T L (.int k (min m n)) :=
  q_run fun a w ha _ => by
    have e : (if n < m then n else m) = min m n := by omega
    simp [execOp, resolve, invoke, builtin, ha.ev hx, ha.ev hy, run_min_int2, e]
theorem q_max2 {d : Option Tmp} {x y : Operand} {ts : Array TypeId} {k k' : IntKind} {m n : Int} {t' : TypeId} {p : String} {af : Array Edge} {g : Option (Nat × Bool)}
    (hx : ev T x = some (.int k m)) (hy : ev T y = some (.int k' n)) :
    Quiet P w0 M N D { dst := d, op := .call { callee := .builtin .max, args := #[x, y], argTypes := ts }, type := t', pos := p, after := af, guard := g } T L (.int k (max m n)) :=
  q_run fun a w ha _ => by
    have e : (if m < n then n else m) = max m n := by omega
    simp [execOp, resolve, invoke, builtin, ha.ev hx, ha.ev hy, run_max_int2, e]
theorem run_min3 (ts : Array TypeId) (t : TypeId) (k k' k'' : IntKind) (x y z : Int) (w : World) : (Builtin.min_ ts t #[.int k x, .int k' y, .int k'' z]).run P w = .ok (.int k (if z < (if y < x then y else x) then z else (if y < x then y else x))) w := by
  simp [Builtin.min_, Builtin.min2]
theorem run_max3 (ts : Array TypeId) (t : TypeId) (k k' k'' : IntKind) (x y z : Int) (w : World) : (Builtin.max_ ts t #[.int k x, .int k' y, .int k'' z]).run P w = .ok (.int k (if z > (if y > x then y else x) then z else (if y > x then y else x))) w := by
  simp [Builtin.max_, Builtin.max2]
theorem q_min3 {d : Option Tmp} {x y z : Operand} {ts : Array TypeId} {k k' k'' : IntKind} {l m n : Int} {t' : TypeId} {p : String} {af : Array Edge} {g : Option (Nat × Bool)}
    (hx : ev T x = some (.int k l)) (hy : ev T y = some (.int k' m)) (hz : ev T z = some (.int k'' n)) :
    Quiet P w0 M N D { dst := d, op := .call { callee := .builtin .min, args := #[x, y, z], argTypes := ts }, type := t', pos := p, after := af, guard := g } T L (.int k (min (min l m) n)) :=
  q_run fun a w ha _ => by
    have e : (if n < (if m < l then m else l) then n else (if m < l then m else l)) = min (min l m) n := by split <;> split <;> omega
    simp [execOp, resolve, invoke, builtin, ha.ev hx, ha.ev hy, ha.ev hz, run_min3, e]
theorem q_max3 {d : Option Tmp} {x y z : Operand} {ts : Array TypeId} {k k' k'' : IntKind} {l m n : Int} {t' : TypeId} {p : String} {af : Array Edge} {g : Option (Nat × Bool)}
    (hx : ev T x = some (.int k l)) (hy : ev T y = some (.int k' m)) (hz : ev T z = some (.int k'' n)) :
    Quiet P w0 M N D { dst := d, op := .call { callee := .builtin .max, args := #[x, y, z], argTypes := ts }, type := t', pos := p, after := af, guard := g } T L (.int k (max (max l m) n)) :=
  q_run fun a w ha _ => by
    have e : (if (if l < m then m else l) < n then n else (if l < m then m else l)) = max (max l m) n := by split <;> split <;> omega
    simp [execOp, resolve, invoke, builtin, ha.ev hx, ha.ev hy, ha.ev hz, run_max3, e]
end
end Go.NP
namespace Go.Proofs.YtomdahjakkifbaaGreat
open Go Go.NP Go.RowKit Go.Proofs
set_option maxRecDepth 100000

/-! ## Bounds -/
structure Bd where
  low : Pt
  high : Pt
def Bd.l (b : Bd) : List Value := b.low.l ++ b.high.l
theorem bd0 (b : Bd) : Part b.l 0 3 b.low.l := ⟨rfl, rfl⟩
theorem bd1 (b : Bd) : Part b.l 3 3 b.high.l := ⟨rfl, rfl⟩
def ptMin (p q : Pt) : Pt := ⟨min p.x q.x, min p.y q.y, min p.z q.z⟩
def ptMax (p q : Pt) : Pt := ⟨max p.x q.x, max p.y q.y, max p.z q.z⟩
/-- A bound that may be. -/
def okB (b : Bd) : Prop := b.low.In 268435456 ∧ b.high.In 268435456 ∧ ptMin b.low b.high = b.low
instance (b : Bd) : Decidable (okB b) := by unfold okB; exact inferInstance
theorem bldB (b : Bd) : ∀ w, (Instr.build 53 [(0, Value.agg b.low.l.toArray), (1, Value.agg b.high.l.toArray)].toArray).run Tryz.prog w = .ok (.agg b.l.toArray) w := fun w => by kernel_rfl
theorem bslB (b : Bd) : ∀ w, (Instr.buildSlice 91 1 [(0, Value.agg b.l.toArray)].toArray).run Tryz.prog w = .ok (.slice (some ⟨w.heap.size, 0, none⟩) 1 1) (w.alloc (.cells b.l.toArray 53)) := fun w => by kernel_rfl
theorem bslB2 (a b : Bd) : ∀ w, (Instr.buildSlice 91 2 [(0, Value.agg a.l.toArray), (1, Value.agg b.l.toArray)].toArray).run Tryz.prog w = .ok (.slice (some ⟨w.heap.size, 0, none⟩) 2 2) (w.alloc (.cells (a.l ++ b.l).toArray 53)) := fun w => by kernel_rfl

theorem bound_least1 (x y : Int) : PureF Tryz.prog 51 [.int .i64 x, .int .i64 y] (.int .i64 (min x y)) := by
  refine pure_of Tryz.func51 rfl Tryz.ntmps51 rfl fun w => ?_
  refine cw_sr ?_
  refine steps_q rfl (q_assign rfl) ?_  -- bound.go:20
  refine steps_nil ?_
  refine cw_sr ?_
  refine steps_q rfl (q_move rfl) ?_  -- bound.go:20
  refine steps_q rfl (q_move rfl) ?_  -- bound.go:20
  refine steps_q rfl (q_min2 rfl rfl) ?_  -- bound.go:20
  refine steps_q rfl (q_assign rfl) ?_  -- bound.go:20
  refine steps_nil ?_
  refine cw_ret ?_
  exact ret_pure rfl (rv_tmp rfl rv_nil) rfl
theorem bound_most1 (x y : Int) : PureF Tryz.prog 52 [.int .i64 x, .int .i64 y] (.int .i64 (max x y)) := by
  refine pure_of Tryz.func52 rfl Tryz.ntmps52 rfl fun w => ?_
  refine cw_sr ?_
  refine steps_q rfl (q_assign rfl) ?_  -- bound.go:24
  refine steps_nil ?_
  refine cw_sr ?_
  refine steps_q rfl (q_move rfl) ?_  -- bound.go:24
  refine steps_q rfl (q_move rfl) ?_  -- bound.go:24
  refine steps_q rfl (q_max2 rfl rfl) ?_  -- bound.go:24
  refine steps_q rfl (q_assign rfl) ?_  -- bound.go:24
  refine steps_nil ?_
  refine cw_ret ?_
  exact ret_pure rfl (rv_tmp rfl rv_nil) rfl
/-- Number by number. -/
theorem bound_each {p q r : Pt} {f : FuncId} {fs cs : Array Value} (w : World) (he : Ent Tryz.prog f)
    (hx : ∀ w', Below w.heap.size w w' → Calls Tryz.prog f (fs ++ [Value.int .i64 p.x, .int .i64 q.x].toArray ++ cs) w' fun e w'' => e = .returned (.int .i64 r.x) ∧ Below w'.heap.size w' w'')
    (hy : ∀ w', Below w.heap.size w w' → Calls Tryz.prog f (fs ++ [Value.int .i64 p.y, .int .i64 q.y].toArray ++ cs) w' fun e w'' => e = .returned (.int .i64 r.y) ∧ Below w'.heap.size w' w'')
    (hz : ∀ w', Below w.heap.size w w' → Calls Tryz.prog f (fs ++ [Value.int .i64 p.z, .int .i64 q.z].toArray ++ cs) w' fun e w'' => e = .returned (.int .i64 r.z) ∧ Below w'.heap.size w' w'') :
    Calls Tryz.prog 50 #[.agg p.l.toArray, .agg q.l.toArray, .func (.func f) fs cs] w fun e w' => e = .returned (.agg r.l.toArray) ∧ Below w.heap.size w w' := by
  refine calls_of Tryz.func50 rfl Tryz.ntmps50 rfl (St.start w) (args := [.agg p.l.toArray, .agg q.l.toArray, .func (.func f) fs cs]) ?_
  refine cw_sr ?_
  refine steps_s (s_boxA 3 rfl rfl fun b3 => ?_)  -- bound.go:14
  refine steps_s (s_boxA 4 rfl rfl fun b4 => ?_)  -- bound.go:14
  refine steps_s (s_allocA 6 rfl zer47 fun b6 => ?_)  -- bound.go:14
  refine steps_nil ?_
  refine cw_sd mixed [0, 1, 2, 3, 4, 5, 6, 7, 8, 9, 10, 11, 12, 13, 14, 15, 16, 17, 18] 1 (without _ [6]) (by kernel_rfl) (sub_without _ _) ?_
  refine qi_q rfl rfl (q_move rfl) ?_  -- bound.go:15
  refine qi_q rfl rfl (q_field fld47_0 rfl) ?_  -- bound.go:15
  refine qi_q rfl rfl (q_load1 3 one2 rfl rfl rfl) ?_  -- bound.go:15
  refine qi_q rfl rfl (q_field fld47_0 rfl) ?_  -- bound.go:15
  refine qi_q rfl rfl (q_load1 4 one2 rfl rfl rfl) ?_  -- bound.go:15
  refine qi_q rfl rfl (q_call he rfl rfl (fun w' hw => hx w' hw.below)) ?_  -- bound.go:15
  refine qi_q rfl rfl (q_move rfl) ?_  -- bound.go:15
  refine qi_q rfl rfl (q_field fld47_1 rfl) ?_  -- bound.go:15
  refine qi_q rfl rfl (q_load1 3 one2 rfl rfl rfl) ?_  -- bound.go:15
  refine qi_q rfl rfl (q_field fld47_1 rfl) ?_  -- bound.go:15
  refine qi_q rfl rfl (q_load1 4 one2 rfl rfl rfl) ?_  -- bound.go:15
  refine qi_q rfl rfl (q_call he rfl rfl (fun w' hw => hy w' hw.below)) ?_  -- bound.go:15
  refine qi_q rfl rfl (q_move rfl) ?_  -- bound.go:15
  refine qi_q rfl rfl (q_field fld47_2 rfl) ?_  -- bound.go:15
  refine qi_q rfl rfl (q_load1 3 one2 rfl rfl rfl) ?_  -- bound.go:15
  refine qi_q rfl rfl (q_field fld47_2 rfl) ?_  -- bound.go:15
  refine qi_q rfl rfl (q_load1 4 one2 rfl rfl rfl) ?_  -- bound.go:15
  refine qi_q rfl rfl (q_call he rfl rfl (fun w' hw => hz w' hw.below)) ?_  -- bound.go:15
  refine qi_q rfl rfl (q_build (vs := [(0, _), (1, _), (2, _)]) rfl rfl (bldP r)) ?_  -- bound.go:15
  refine qi_nil ?_
  refine tail_one 19 (by kernel_rfl) rfl rfl (s_storeW 6 siz47 rfl rfl rfl rfl rfl rfl ⟨(subl_cons rfl (sub_without _ _)), ?_⟩)  -- bound.go:15
  refine tail_nil (by kernel_rfl) ?_
  refine cw_ret ?_
  exact ret_pure rfl (rv_agg 6 agg47 rfl rfl rfl rv_nil) rfl
theorem bound_least (p q : Pt) : PureF Tryz.prog 32 [.agg p.l.toArray, .agg q.l.toArray] (.agg (ptMin p q).l.toArray) := by
  refine pure_of Tryz.func32 rfl Tryz.ntmps32 rfl fun w => ?_
  refine cw_sr ?_
  refine steps_s (s_boxA 2 rfl rfl fun b2 => ?_)  -- bound.go:19
  refine steps_s (s_boxA 3 rfl rfl fun b3 => ?_)  -- bound.go:19
  refine steps_s (s_allocA 4 rfl zer47 fun b4 => ?_)  -- bound.go:19
  refine steps_nil ?_
  refine cw_sr ?_
  refine steps_q rfl (q_loadW 2 agg47 rfl rfl rfl) ?_  -- bound.go:20
  refine steps_q rfl (q_loadW 3 agg47 rfl rfl rfl) ?_  -- bound.go:20
  refine steps_q rfl (q_call (fs := #[]) (cs := #[]) ent50 rfl rfl (fun w' _ => by simpa using bound_each (p := p) (q := q) (r := ptMin p q) (fs := #[]) (cs := #[]) w' ent51 (fun w'' _ => by simpa [ptMin] using bound_least1 p.x q.x w'') (fun w'' _ => by simpa [ptMin] using bound_least1 p.y q.y w'') (fun w'' _ => by simpa [ptMin] using bound_least1 p.z q.z w''))) ?_  -- bound.go:20
  refine steps_s (s_storeW 4 siz47 rfl rfl rfl rfl rfl rfl ?_)  -- bound.go:20
  refine steps_nil ?_
  refine cw_ret ?_
  exact ret_pure rfl (rv_agg 4 agg47 rfl rfl rfl rv_nil) rfl
theorem bound_most (p q : Pt) : PureF Tryz.prog 33 [.agg p.l.toArray, .agg q.l.toArray] (.agg (ptMax p q).l.toArray) := by
  refine pure_of Tryz.func33 rfl Tryz.ntmps33 rfl fun w => ?_
  refine cw_sr ?_
  refine steps_s (s_boxA 2 rfl rfl fun b2 => ?_)  -- bound.go:23
  refine steps_s (s_boxA 3 rfl rfl fun b3 => ?_)  -- bound.go:23
  refine steps_s (s_allocA 4 rfl zer47 fun b4 => ?_)  -- bound.go:23
  refine steps_nil ?_
  refine cw_sr ?_
  refine steps_q rfl (q_loadW 2 agg47 rfl rfl rfl) ?_  -- bound.go:24
  refine steps_q rfl (q_loadW 3 agg47 rfl rfl rfl) ?_  -- bound.go:24
  refine steps_q rfl (q_call (fs := #[]) (cs := #[]) ent50 rfl rfl (fun w' _ => by simpa using bound_each (p := p) (q := q) (r := ptMax p q) (fs := #[]) (cs := #[]) w' ent52 (fun w'' _ => by simpa [ptMax] using bound_most1 p.x q.x w'') (fun w'' _ => by simpa [ptMax] using bound_most1 p.y q.y w'') (fun w'' _ => by simpa [ptMax] using bound_most1 p.z q.z w''))) ?_  -- bound.go:24
  refine steps_s (s_storeW 4 siz47 rfl rfl rfl rfl rfl rfl ?_)  -- bound.go:24
  refine steps_nil ?_
  refine cw_ret ?_
  exact ret_pure rfl (rv_agg 4 agg47 rfl rfl rfl rv_nil) rfl
theorem errP_in {p : Pt} (h : p.In 268435456) : errP p = 0 := if_pos h
theorem errP_out {p : Pt} (h : ¬ p.In 268435456) : errP p = 7 := if_neg h
theorem neq_7 {x : Int} (h : x = 7) : binI .neq .i64 x .i64 0 = some (.bool true) := neq_t (by rw [h]; decide)
theorem bound_Check (b : Bd) : PureF Tryz.prog 55 [.agg b.l.toArray] (.int .i64 (if okB b then 0 else 7)) := by
  refine pure_of Tryz.func55 rfl Tryz.ntmps55 rfl fun w => ?_
  by_cases hl : b.low.In 268435456
  · by_cases hh : b.high.In 268435456
    · by_cases hm : ptMin b.low b.high = b.low
      · rw [if_pos (show okB b from ⟨hl, hh, hm⟩)]
        refine cw_sr ?_
        refine steps_s (s_boxA 1 rfl rfl fun b1 => ?_)  -- bound.go:28
        refine steps_q rfl (q_assign rfl) ?_  -- bound.go:28
        refine steps_nil ?_
        refine cw_seq ?_
        refine cw_sd mixed [0, 1, 2, 3, 4, 5, 6, 7, 8, 9, 10, 11, 12, 13, 14, 15, 16, 17, 18, 19] 0 _ (by kernel_rfl) (SubL.refl _) ?_
        refine qi_q rfl rfl (q_field fld53_0 rfl) ?_  -- bound.go:29
        refine qi_q rfl rfl (q_loadA 1 agg47 rfl rfl (bd0 b)) ?_  -- bound.go:29
        refine qi_q rfl rfl (q_pure ent16 rfl (grid_Check b.low)) ?_  -- bound.go:29
        refine qi_q rfl rfl (q_bin rfl rfl (neq_f (errP_in hl))) ?_  -- bound.go:29
        refine qi_q rfl rfl (q_move rfl) ?_  -- bound.go:29
        refine qi_gq rfl rfl rfl rfl (q_field fld53_1 rfl) ?_  -- bound.go:29
        refine qi_gq rfl rfl rfl rfl (q_loadA 1 agg47 rfl rfl (bd1 b)) ?_  -- bound.go:29
        refine qi_gq rfl rfl rfl rfl (q_pure ent16 rfl (grid_Check b.high)) ?_  -- bound.go:29
        refine qi_gq rfl rfl rfl rfl (q_bin rfl rfl (neq_f (errP_in hh))) ?_  -- bound.go:29
        refine qi_q rfl rfl (q_pick_f rfl rfl) ?_  -- bound.go:29
        refine qi_q rfl rfl (q_move rfl) ?_  -- bound.go:29
        refine qi_gq rfl rfl rfl rfl (q_field fld53_0 rfl) ?_  -- bound.go:29
        refine qi_gq rfl rfl rfl rfl (q_loadA 1 agg47 rfl rfl (bd0 b)) ?_  -- bound.go:29
        refine qi_gq rfl rfl rfl rfl (q_field fld53_1 rfl) ?_  -- bound.go:29
        refine qi_gq rfl rfl rfl rfl (q_loadA 1 agg47 rfl rfl (bd1 b)) ?_  -- bound.go:29
        refine qi_gq rfl rfl rfl rfl (q_pure ent32 rfl (bound_least b.low b.high)) ?_  -- bound.go:29
        refine qi_gq rfl rfl rfl rfl (q_field fld53_0 rfl) ?_  -- bound.go:29
        refine qi_gq rfl rfl rfl rfl (q_loadA 1 agg47 rfl rfl (bd0 b)) ?_  -- bound.go:29
        refine qi_gq rfl rfl rfl rfl (q_aneq rfl rfl (eqlP (ptMin b.low b.high) b.low) rfl) ?_  -- bound.go:29
        refine qi_q rfl rfl (q_pick_f rfl rfl) ?_  -- bound.go:29
        refine qi_nil ?_
        refine tail_nil (by kernel_rfl) ?_
        refine cw_cond _ rfl (fun hc1 => ?_) (fun hc1 => ?_)
        · rw [hm] at hc1; simp at hc1
        · -- no 1
          refine cw_skip ?_
          refine at_then ?_
          refine cw_sr ?_
          refine steps_q rfl (q_assign rfl) ?_  -- bound.go:32
          refine steps_nil ?_
          refine cw_ret ?_
          exact ret_pure rfl (rv_tmp rfl rv_nil) rfl
      · rw [if_neg (show ¬ okB b from fun h => hm h.2.2)]
        refine cw_sr ?_
        refine steps_s (s_boxA 1 rfl rfl fun b1 => ?_)  -- bound.go:28
        refine steps_q rfl (q_assign rfl) ?_  -- bound.go:28
        refine steps_nil ?_
        refine cw_seq ?_
        refine cw_sd mixed [0, 1, 2, 3, 4, 5, 6, 7, 8, 9, 10, 11, 12, 13, 14, 15, 16, 17, 18, 19] 0 _ (by kernel_rfl) (SubL.refl _) ?_
        refine qi_q rfl rfl (q_field fld53_0 rfl) ?_  -- bound.go:29
        refine qi_q rfl rfl (q_loadA 1 agg47 rfl rfl (bd0 b)) ?_  -- bound.go:29
        refine qi_q rfl rfl (q_pure ent16 rfl (grid_Check b.low)) ?_  -- bound.go:29
        refine qi_q rfl rfl (q_bin rfl rfl (neq_f (errP_in hl))) ?_  -- bound.go:29
        refine qi_q rfl rfl (q_move rfl) ?_  -- bound.go:29
        refine qi_gq rfl rfl rfl rfl (q_field fld53_1 rfl) ?_  -- bound.go:29
        refine qi_gq rfl rfl rfl rfl (q_loadA 1 agg47 rfl rfl (bd1 b)) ?_  -- bound.go:29
        refine qi_gq rfl rfl rfl rfl (q_pure ent16 rfl (grid_Check b.high)) ?_  -- bound.go:29
        refine qi_gq rfl rfl rfl rfl (q_bin rfl rfl (neq_f (errP_in hh))) ?_  -- bound.go:29
        refine qi_q rfl rfl (q_pick_f rfl rfl) ?_  -- bound.go:29
        refine qi_q rfl rfl (q_move rfl) ?_  -- bound.go:29
        refine qi_gq rfl rfl rfl rfl (q_field fld53_0 rfl) ?_  -- bound.go:29
        refine qi_gq rfl rfl rfl rfl (q_loadA 1 agg47 rfl rfl (bd0 b)) ?_  -- bound.go:29
        refine qi_gq rfl rfl rfl rfl (q_field fld53_1 rfl) ?_  -- bound.go:29
        refine qi_gq rfl rfl rfl rfl (q_loadA 1 agg47 rfl rfl (bd1 b)) ?_  -- bound.go:29
        refine qi_gq rfl rfl rfl rfl (q_pure ent32 rfl (bound_least b.low b.high)) ?_  -- bound.go:29
        refine qi_gq rfl rfl rfl rfl (q_field fld53_0 rfl) ?_  -- bound.go:29
        refine qi_gq rfl rfl rfl rfl (q_loadA 1 agg47 rfl rfl (bd0 b)) ?_  -- bound.go:29
        refine qi_gq rfl rfl rfl rfl (q_aneq rfl rfl (eqlP (ptMin b.low b.high) b.low) rfl) ?_  -- bound.go:29
        refine qi_q rfl rfl (q_pick_f rfl rfl) ?_  -- bound.go:29
        refine qi_nil ?_
        refine tail_nil (by kernel_rfl) ?_
        refine cw_cond _ rfl (fun hc1 => ?_) (fun hc1 => ?_)
        · -- yes 1
          refine cw_sr ?_
          refine steps_q rfl (q_assign rfl) ?_  -- bound.go:30
          refine steps_nil ?_
          refine cw_ret ?_
          exact ret_pure rfl (rv_tmp rfl rv_nil) rfl
        · rw [decide_eq_false hm] at hc1; simp at hc1
    · rw [if_neg (show ¬ okB b from fun h => hh h.2.1)]
      refine cw_sr ?_
      refine steps_s (s_boxA 1 rfl rfl fun b1 => ?_)  -- bound.go:28
      refine steps_q rfl (q_assign rfl) ?_  -- bound.go:28
      refine steps_nil ?_
      refine cw_seq ?_
      refine cw_sd mixed [0, 1, 2, 3, 4, 5, 6, 7, 8, 9, 10, 11, 12, 13, 14, 15, 16, 17, 18, 19] 0 _ (by kernel_rfl) (SubL.refl _) ?_
      refine qi_q rfl rfl (q_field fld53_0 rfl) ?_  -- bound.go:29
      refine qi_q rfl rfl (q_loadA 1 agg47 rfl rfl (bd0 b)) ?_  -- bound.go:29
      refine qi_q rfl rfl (q_pure ent16 rfl (grid_Check b.low)) ?_  -- bound.go:29
      refine qi_q rfl rfl (q_bin rfl rfl (neq_f (errP_in hl))) ?_  -- bound.go:29
      refine qi_q rfl rfl (q_move rfl) ?_  -- bound.go:29
      refine qi_gq rfl rfl rfl rfl (q_field fld53_1 rfl) ?_  -- bound.go:29
      refine qi_gq rfl rfl rfl rfl (q_loadA 1 agg47 rfl rfl (bd1 b)) ?_  -- bound.go:29
      refine qi_gq rfl rfl rfl rfl (q_pure ent16 rfl (grid_Check b.high)) ?_  -- bound.go:29
      refine qi_gq rfl rfl rfl rfl (q_bin rfl rfl (neq_7 (errP_out hh))) ?_  -- bound.go:29
      refine qi_q rfl rfl (q_pick_f rfl rfl) ?_  -- bound.go:29
      refine qi_q rfl rfl (q_move rfl) ?_  -- bound.go:29
      refine qi_gn rfl rfl rfl rfl rfl ?_  -- bound.go:29
      refine qi_gn rfl rfl rfl rfl rfl ?_  -- bound.go:29
      refine qi_gn rfl rfl rfl rfl rfl ?_  -- bound.go:29
      refine qi_gn rfl rfl rfl rfl rfl ?_  -- bound.go:29
      refine qi_gn rfl rfl rfl rfl rfl ?_  -- bound.go:29
      refine qi_gn rfl rfl rfl rfl rfl ?_  -- bound.go:29
      refine qi_gn rfl rfl rfl rfl rfl ?_  -- bound.go:29
      refine qi_gn rfl rfl rfl rfl rfl ?_  -- bound.go:29
      refine qi_q rfl rfl (q_pick_t rfl rfl) ?_  -- bound.go:29
      refine qi_nil ?_
      refine tail_nil (by kernel_rfl) ?_
      refine cw_cond _ rfl (fun hc1 => ?_) (fun hc1 => ?_)
      · -- yes 1
        refine cw_sr ?_
        refine steps_q rfl (q_assign rfl) ?_  -- bound.go:30
        refine steps_nil ?_
        refine cw_ret ?_
        exact ret_pure rfl (rv_tmp rfl rv_nil) rfl
      · cases hc1
  · rw [if_neg (show ¬ okB b from fun h => hl h.1)]
    refine cw_sr ?_
    refine steps_s (s_boxA 1 rfl rfl fun b1 => ?_)  -- bound.go:28
    refine steps_q rfl (q_assign rfl) ?_  -- bound.go:28
    refine steps_nil ?_
    refine cw_seq ?_
    refine cw_sd mixed [0, 1, 2, 3, 4, 5, 6, 7, 8, 9, 10, 11, 12, 13, 14, 15, 16, 17, 18, 19] 0 _ (by kernel_rfl) (SubL.refl _) ?_
    refine qi_q rfl rfl (q_field fld53_0 rfl) ?_  -- bound.go:29
    refine qi_q rfl rfl (q_loadA 1 agg47 rfl rfl (bd0 b)) ?_  -- bound.go:29
    refine qi_q rfl rfl (q_pure ent16 rfl (grid_Check b.low)) ?_  -- bound.go:29
    refine qi_q rfl rfl (q_bin rfl rfl (neq_7 (errP_out hl))) ?_  -- bound.go:29
    refine qi_q rfl rfl (q_move rfl) ?_  -- bound.go:29
    refine qi_gn rfl rfl rfl rfl rfl ?_  -- bound.go:29
    refine qi_gn rfl rfl rfl rfl rfl ?_  -- bound.go:29
    refine qi_gn rfl rfl rfl rfl rfl ?_  -- bound.go:29
    refine qi_gn rfl rfl rfl rfl rfl ?_  -- bound.go:29
    refine qi_q rfl rfl (q_pick_t rfl rfl) ?_  -- bound.go:29
    refine qi_q rfl rfl (q_move rfl) ?_  -- bound.go:29
    refine qi_gn rfl rfl rfl rfl rfl ?_  -- bound.go:29
    refine qi_gn rfl rfl rfl rfl rfl ?_  -- bound.go:29
    refine qi_gn rfl rfl rfl rfl rfl ?_  -- bound.go:29
    refine qi_gn rfl rfl rfl rfl rfl ?_  -- bound.go:29
    refine qi_gn rfl rfl rfl rfl rfl ?_  -- bound.go:29
    refine qi_gn rfl rfl rfl rfl rfl ?_  -- bound.go:29
    refine qi_gn rfl rfl rfl rfl rfl ?_  -- bound.go:29
    refine qi_gn rfl rfl rfl rfl rfl ?_  -- bound.go:29
    refine qi_q rfl rfl (q_pick_t rfl rfl) ?_  -- bound.go:29
    refine qi_nil ?_
    refine tail_nil (by kernel_rfl) ?_
    refine cw_cond _ rfl (fun hc1 => ?_) (fun hc1 => ?_)
    · -- yes 1
      refine cw_sr ?_
      refine steps_q rfl (q_assign rfl) ?_  -- bound.go:30
      refine steps_nil ?_
      refine cw_ret ?_
      exact ret_pure rfl (rv_tmp rfl rv_nil) rfl
    · cases hc1
theorem bound_may_ok {bs : List Bd} {v : Value} (w : World) (h : SlAt w 53 6 v (bs.map Bd.l)) (hlen : bs.length ≤ 1000000) (hok : ∀ b ∈ bs, okB b) :
    Calls Tryz.prog 35 #[v] w fun e w' => e = .returned (.bool true) ∧ Below w.heap.size w w' := by
  obtain ⟨a, c, rfl, hsl⟩ := h
  rw [List.length_map]
  refine calls_of Tryz.func35 rfl Tryz.ntmps35 rfl (St.start w) (args := [.slice a bs.length c]) ?_
  refine cw_sr ?_
  refine steps_q rfl (q_assign rfl) ?_  -- bound.go:36
  refine steps_nil ?_
  refine cw_seq ?_
  refine cw_sr ?_
  refine steps_q rfl (q_move rfl) ?_  -- bound.go:37
  refine steps_q rfl (q_lenSl Tryz.underlying91 rfl) ?_  -- bound.go:37
  refine steps_q rfl (q_move rfl) ?_  -- bound.go:37
  refine steps_nil ?_
  refine cw_block ?_
  -- LOOP 1 writes [4, 7, 8, 9, 10, 11, 12, 13, 14]  stores via [4]  reads [5, 6]
  refine cw_loop (S := Int) (fun s => [(5, .slice a bs.length c), (6, .int .i64 bs.length), (7, .int .i64 s)]) (fun _ => []) (fun s => 0 ≤ s ∧ s ≤ bs.length) (fun s => (bs.length - s).toNat) 0 ⟨by omega, by omega⟩ (subs ⟨rfl, rfl, rfl, trivial⟩) (subs trivial) ?_
  intro i ⟨hi0, hi1⟩
  refine cw_sr ?_
  refine steps_q rfl (q_bin rfl rfl rfl) ?_  -- bound.go:37
  refine steps_nil ?_
  refine cw_seq ?_
  refine cw_cond _ rfl (fun hc1 => ?_) (fun hc1 => ?_)
  · -- yes 1
    have hc : i < bs.length := of_decide_eq_true hc1
    obtain ⟨p, hp⟩ : ∃ p, bs[i.toNat]? = some p := ⟨bs[i.toNat]'(by omega), List.getElem?_eq_getElem (by omega)⟩
    have hpl : (bs.map Bd.l)[i.toNat]? = some p.l := by rw [List.getElem?_map, hp]; rfl
    obtain ⟨b, off, l, fz, rfl, hb, hpt⟩ := hsl.resolve_left (by intro h; rw [h] at hpl; simp at hpl)
    have hk := hok p (List.mem_of_getElem? hp)
    refine cw_skip ?_
    refine at_then ?_
    refine cw_seq ?_
    refine cw_block ?_
    refine cw_sr ?_
    refine steps_q rfl (q_indexSl slc91 rfl rfl hi0 hc) ?_  -- bound.go:37
    refine steps_q rfl (q_loadAo agg53 rfl hb (by simp) (hpt _ _ hpl)) ?_  -- bound.go:37
    refine steps_s (s_allocA 4 rfl zer53 fun b4 => ?_)  -- bound.go:37
    refine steps_s (s_storeW 4 siz53 rfl rfl rfl rfl rfl rfl ?_)  -- bound.go:37
    refine steps_nil ?_
    refine cw_sr ?_
    refine steps_q rfl (q_loadW 4 agg53 rfl rfl rfl) ?_  -- bound.go:38
    refine steps_q rfl (q_pure ent55 rfl (bound_Check p)) ?_  -- bound.go:38
    rw [if_pos hk]
    refine steps_q rfl (q_bin rfl rfl (neq_f rfl)) ?_  -- bound.go:38
    refine steps_nil ?_
    refine cw_cond _ rfl (fun hc2 => ?_) (fun hc2 => ?_)
    · cases hc2
    · -- no 2
      refine cw_skip ?_
      refine at_then ?_
      refine cw_region ?_
      refine steps_q rfl (q_bin rfl rfl (add64 (by omega) (by omega))) ?_  -- bound.go:37
      refine steps_q rfl (q_move rfl) ?_  -- bound.go:37
      refine steps_nil ?_
      exact at_round (i + 1) ⟨by omega, by omega⟩ (by omega) (subs ⟨rfl, rfl, rfl, trivial⟩) (subs trivial)
  · -- no 1
    refine cw_exit ?_
    refine at_then ?_
    refine cw_sr ?_
    refine steps_q rfl (q_assign rfl) ?_  -- bound.go:42
    refine steps_nil ?_
    refine cw_ret ?_
    exact ret_pure rfl (rv_tmp rfl rv_nil) rfl
theorem told_b1 {w0 w : World} {M : List Nat} {L : HL} {i g : Nat} {b : Bd} (hw : St w0 M w L) (hl : Go.NP.look L i = some (g, .cells b.l.toArray 53 (0, 0))) : SlAt w 53 6 (.slice (some ⟨g, 0, none⟩) 1 1) ([b].map Bd.l) :=
  SlAt.own (q := some (g, b.l, 1)) (i := i) (e := 53) (s := 6) (xs := [b].map Bd.l) hw (subs ⟨hl, trivial⟩) ⟨rfl, Nat.le_refl _, by decide, rfl, fun y hy => by simp at hy; subst hy; rfl⟩
theorem told_b2 {w0 w : World} {M : List Nat} {L : HL} {i g : Nat} {a b : Bd} (hw : St w0 M w L) (hl : Go.NP.look L i = some (g, .cells (a.l ++ b.l).toArray 53 (0, 0))) : SlAt w 53 6 (.slice (some ⟨g, 0, none⟩) 2 2) ([a, b].map Bd.l) :=
  SlAt.own (q := some (g, a.l ++ b.l, 2)) (i := i) (e := 53) (s := 6) (xs := [a, b].map Bd.l) hw (subs ⟨hl, trivial⟩) ⟨rfl, Nat.le_refl _, by decide, rfl, fun y hy => by simp at hy; rcases hy with rfl | rfl <;> rfl⟩
theorem bound_Grow1 {x : Int} {b : Nat} (w : World) (hb : w.heap[b]? = some (.cells [Value.int .i64 0].toArray 2 (0, 0))) (h0 : -268435456 ≤ x) (h1 : x ≤ 268435456) :
    Calls Tryz.prog 53 #[.int .i64 x, .int .i64 268435456, .pointer (some ⟨b, 0, none⟩)] w fun e w' => e = .returned (.int .i64 x) ∧ Below w.heap.size w w' := by
  refine calls_of Tryz.func53 rfl Tryz.ntmps53 rfl (St.start w) (args := [.int .i64 x, .int .i64 268435456, .pointer (some ⟨b, 0, none⟩)]) ?_
  refine cw_sr ?_
  refine steps_q rfl (q_assign rfl) ?_  -- bound.go:86
  refine steps_nil ?_
  refine cw_sr ?_
  refine steps_q rfl (q_move rfl) ?_  -- bound.go:86
  refine steps_q rfl (q_load1o one2 rfl hb (by simp) rfl) ?_  -- bound.go:86
  refine steps_q rfl (q_bin rfl rfl (sub64 (by omega) (by omega))) ?_  -- bound.go:86
  refine steps_q rfl (q_move rfl) ?_  -- bound.go:86
  refine steps_q rfl (q_neg rfl (sub64 (by omega) (by omega))) ?_  -- bound.go:86
  refine steps_q rfl (q_max2 rfl rfl) ?_  -- bound.go:86
  rw [show max (x - 0) (0 - 268435456) = x by omega]
  refine steps_q rfl (q_assign rfl) ?_  -- bound.go:86
  refine steps_nil ?_
  refine cw_ret ?_
  exact ret_pure rfl (rv_tmp rfl rv_nil) rfl
theorem bound_Grow2 {x : Int} {b : Nat} (w : World) (hb : w.heap[b]? = some (.cells [Value.int .i64 0].toArray 2 (0, 0))) (h0 : -268435456 ≤ x) (h1 : x ≤ 268435456) :
    Calls Tryz.prog 54 #[.int .i64 x, .int .i64 268435456, .pointer (some ⟨b, 0, none⟩)] w fun e w' => e = .returned (.int .i64 x) ∧ Below w.heap.size w w' := by
  refine calls_of Tryz.func54 rfl Tryz.ntmps54 rfl (St.start w) (args := [.int .i64 x, .int .i64 268435456, .pointer (some ⟨b, 0, none⟩)]) ?_
  refine cw_sr ?_
  refine steps_q rfl (q_assign rfl) ?_  -- bound.go:87
  refine steps_nil ?_
  refine cw_sr ?_
  refine steps_q rfl (q_move rfl) ?_  -- bound.go:87
  refine steps_q rfl (q_load1o one2 rfl hb (by simp) rfl) ?_  -- bound.go:87
  refine steps_q rfl (q_bin rfl rfl (add64 (by omega) (by omega))) ?_  -- bound.go:87
  refine steps_q rfl (q_move rfl) ?_  -- bound.go:87
  refine steps_q rfl (q_min2 rfl rfl) ?_  -- bound.go:87
  rw [show min (x + 0) 268435456 = x by omega]
  refine steps_q rfl (q_assign rfl) ?_  -- bound.go:87
  refine steps_nil ?_
  refine cw_ret ?_
  exact ret_pure rfl (rv_tmp rfl rv_nil) rfl
theorem below_cell {w w' : World} {b : Nat} {o : Obj} (h : w.heap[b]? = some o) (hb : Below w.heap.size w w') : w'.heap[b]? = some o := (hb.block b (Array.getElem?_eq_some_iff.1 h).1).trans h
theorem grow_low {p : Pt} {b : Nat} (w : World) (hc : w.heap[b]? = some (.cells [Value.int .i64 0].toArray 2 (0, 0))) (hp : p.In 268435456) :
    Calls Tryz.prog 50 #[.agg p.l.toArray, .agg (Pt.l ⟨268435456, 268435456, 268435456⟩).toArray, .func (.func 53) #[] #[.pointer (some ⟨b, 0, none⟩)]] w fun e w' => e = .returned (.agg p.l.toArray) ∧ Below w.heap.size w w' := by
  obtain ⟨⟨x0, x1⟩, ⟨y0, y1⟩, ⟨z0, z1⟩⟩ := hp
  exact bound_each (p := p) (q := ⟨268435456, 268435456, 268435456⟩) (r := p) (fs := #[]) (cs := #[.pointer (some ⟨b, 0, none⟩)]) w ent53 (fun w'' hb => by simpa using bound_Grow1 w'' (below_cell hc hb) x0 x1) (fun w'' hb => by simpa using bound_Grow1 w'' (below_cell hc hb) y0 y1) (fun w'' hb => by simpa using bound_Grow1 w'' (below_cell hc hb) z0 z1)
theorem grow_high {p : Pt} {b : Nat} (w : World) (hc : w.heap[b]? = some (.cells [Value.int .i64 0].toArray 2 (0, 0))) (hp : p.In 268435456) :
    Calls Tryz.prog 50 #[.agg p.l.toArray, .agg (Pt.l ⟨268435456, 268435456, 268435456⟩).toArray, .func (.func 54) #[] #[.pointer (some ⟨b, 0, none⟩)]] w fun e w' => e = .returned (.agg p.l.toArray) ∧ Below w.heap.size w w' := by
  obtain ⟨⟨x0, x1⟩, ⟨y0, y1⟩, ⟨z0, z1⟩⟩ := hp
  exact bound_each (p := p) (q := ⟨268435456, 268435456, 268435456⟩) (r := p) (fs := #[]) (cs := #[.pointer (some ⟨b, 0, none⟩)]) w ent54 (fun w'' hb => by simpa using bound_Grow2 w'' (below_cell hc hb) x0 x1) (fun w'' hb => by simpa using bound_Grow2 w'' (below_cell hc hb) y0 y1) (fun w'' hb => by simpa using bound_Grow2 w'' (below_cell hc hb) z0 z1)
/-- Grown by nothing. -/
theorem bound_Grow0 {b : Bd} (hk : okB b) : PureF Tryz.prog 34 [.agg b.l.toArray, .int .i64 0] (.agg b.l.toArray) := by
  refine pure_of Tryz.func34 rfl Tryz.ntmps34 rfl fun w => ?_
  refine cw_sr ?_
  refine steps_s (s_boxA 2 rfl rfl fun b2 => ?_)  -- bound.go:77
  refine steps_s (s_box1 3 rfl rfl rfl fun b3 => ?_)  -- bound.go:77
  refine steps_s (s_allocA 4 rfl zer53 fun b4 => ?_)  -- bound.go:77
  refine steps_nil ?_
  refine cw_seq ?_
  refine cw_sr ?_
  refine steps_q rfl (q_loadW 2 agg53 rfl rfl rfl) ?_  -- bound.go:78
  refine steps_s (s_buildSl 7 rfl rfl rfl (bslB b) fun b7 => ?_)  -- bound.go:78
  refine steps_q rfl (q_call (fs := #[]) (cs := #[]) ent35 rfl rfl (fun w' hw => by simpa using bound_may_ok (bs := [b]) w' (told_b1 (i := 7) hw rfl) (by simp) (fun x hx => by rw [List.mem_singleton.1 hx]; exact hk))) ?_  -- bound.go:78
  refine steps_q rfl (q_not rfl rfl) ?_  -- bound.go:78
  refine steps_nil ?_
  refine cw_cond _ rfl (fun hc1 => ?_) (fun hc1 => ?_)
  · cases hc1
  · -- no 1
    refine cw_skip ?_
    refine at_then ?_
    refine cw_seq ?_
    refine cw_sr ?_
    refine steps_q rfl (q_load1 3 one2 rfl rfl rfl) ?_  -- bound.go:81
    refine steps_q rfl (q_bin rfl rfl (lss_f (by decide))) ?_  -- bound.go:81
    refine steps_q rfl (q_move rfl) ?_  -- bound.go:81
    refine steps_gq rfl rfl rfl (q_load1 3 one2 rfl rfl rfl) ?_  -- bound.go:81
    refine steps_gq rfl rfl rfl (q_bin rfl rfl (gtr_f (by decide))) ?_  -- bound.go:81
    refine steps_q rfl (q_pick_f rfl rfl) ?_  -- bound.go:81
    refine steps_nil ?_
    refine cw_cond _ rfl (fun hc2 => ?_) (fun hc2 => ?_)
    · cases hc2
    · -- no 2
      refine cw_skip ?_
      refine at_then ?_
      refine cw_sr ?_
      refine steps_q rfl (q_build (vs := [(0, _), (1, _), (2, _)]) rfl rfl (bldP ⟨268435456, 268435456, 268435456⟩)) ?_  -- bound.go:84
      refine steps_s (s_allocA 5 rfl zer47 fun b5 => ?_)  -- bound.go:84
      refine steps_s (s_storeW 5 siz47 rfl rfl rfl rfl rfl rfl ?_)  -- bound.go:84
      refine steps_nil ?_
      refine cw_sd mixed [0, 1, 2, 3, 4, 5, 6, 7, 8, 9, 10] 1 (without _ [4]) (by kernel_rfl) (sub_without _ _) ?_
      refine qi_q rfl rfl (q_field fld53_0 rfl) ?_  -- bound.go:85
      refine qi_q rfl rfl (q_loadA 2 agg47 rfl rfl (bd0 b)) ?_  -- bound.go:85
      refine qi_q rfl rfl (q_loadW 5 agg47 rfl rfl rfl) ?_  -- bound.go:85
      refine qi_q rfl rfl (q_func rfl rfl) ?_  -- bound.go:85
      refine qi_q rfl rfl (q_call (fs := #[]) (cs := #[]) ent50 rfl rfl (fun w' hw => by simpa using grow_low w' (hw.known 3 b3 _ rfl).1 hk.1)) ?_  -- bound.go:86
      refine qi_q rfl rfl (q_field fld53_1 rfl) ?_  -- bound.go:85
      refine qi_q rfl rfl (q_loadA 2 agg47 rfl rfl (bd1 b)) ?_  -- bound.go:85
      refine qi_q rfl rfl (q_loadW 5 agg47 rfl rfl rfl) ?_  -- bound.go:85
      refine qi_q rfl rfl (q_func rfl rfl) ?_  -- bound.go:85
      refine qi_q rfl rfl (q_call (fs := #[]) (cs := #[]) ent50 rfl rfl (fun w' hw => by simpa using grow_high w' (hw.known 3 b3 _ rfl).1 hk.2.1)) ?_  -- bound.go:87
      refine qi_q rfl rfl (q_build (vs := [(0, _), (1, _)]) rfl rfl (bldB b)) ?_  -- bound.go:85
      refine qi_nil ?_
      refine tail_one 11 (by kernel_rfl) rfl rfl (s_storeW 4 siz53 rfl rfl rfl rfl rfl rfl ⟨(subl_cons rfl (sub_without _ _)), ?_⟩)  -- bound.go:85
      refine tail_nil (by kernel_rfl) ?_
      refine cw_ret ?_
      exact ret_pure rfl (rv_agg 4 agg53 rfl rfl rfl rv_nil) rfl
/-- One point is not above another one, number by number. -/
def leP (p q : Pt) : Prop := p.x ≤ q.x ∧ p.y ≤ q.y ∧ p.z ≤ q.z
theorem okB_of {l h : Pt} (h1 : l.In 268435456) (h2 : h.In 268435456) (h3 : leP l h) : okB ⟨l, h⟩ := ⟨h1, h2, by
  obtain ⟨a, b, c⟩ := h3
  cases l; cases h
  simp only [ptMin, Pt.mk.injEq] at *
  omega⟩
theorem minmax_in {l p : Pt} (h : l.In 268435456) (hp : p.In 268435456) : (ptMin l p).In 268435456 := by simp only [Pt.In, ptMin] at *; omega
theorem minmax_in' {l p : Pt} (h : l.In 268435456) (hp : p.In 268435456) : (ptMax l p).In 268435456 := by simp only [Pt.In, ptMax] at *; omega
theorem minmax_le {l h p : Pt} (hl : leP l h) : leP (ptMin l p) (ptMax h p) := by simp only [leP, ptMin, ptMax] at *; omega
theorem minmax_all {ps : List Pt} {i : Nat} {b : Bd} {p : Pt} (hz : ∀ (k : Nat) (p : Pt), ps[k]? = some p → k < i → leP b.low p ∧ leP p b.high) (hp : ps[i]? = some p) : ∀ (k : Nat) (q : Pt), ps[k]? = some q → k < i + 1 → leP (ptMin b.low p) q ∧ leP q (ptMax b.high p) := fun k q hq hk => by
  by_cases hki : k = i
  · subst hki
    rw [hp] at hq; cases hq
    simp only [leP, ptMin, ptMax]; omega
  · have := hz k q hq (by omega)
    simp only [leP, ptMin, ptMax] at *; omega
/-- What Of hands back: a bound of the points. -/
def BO (ps : List Pt) (v : Value) (Ln : HL) : Prop := ∃ b : Bd, b.low.In 268435456 ∧ b.high.In 268435456 ∧ leP b.low b.high ∧ (∀ p ∈ ps, leP b.low p ∧ leP p b.high) ∧ v = .tuple #[.agg b.l.toArray, .int .i64 0] ∧ Ln = []
theorem bound_Of {ps : List Pt} {v : Value} (w : World) (h : PtsAt w v ps) (hlen : ps.length ≤ 1000000) (hok : okPts ps) (h1 : 1 ≤ ps.length) :
    Calls Tryz.prog 19 #[v, .int .i64 0] w fun e w' => ∃ v Ln, e = .returned v ∧ BO ps v Ln ∧ St w [] w' Ln := by
  obtain ⟨a, c, rfl, hsl⟩ := h
  rw [List.length_map]
  obtain ⟨bl, off, l, fz, rfl, hb, hpt⟩ := hsl.resolve_left (by intro h; rw [List.map_eq_nil_iff] at h; subst h; simp at h1)
  obtain ⟨p0, hp0⟩ : ∃ p, ps[(0 : Int).toNat]? = some p := ⟨ps[(0 : Int).toNat]'(by simp; omega), List.getElem?_eq_getElem _⟩
  have hp0l : (ps.map Pt.l)[(0 : Int).toNat]? = some p0.l := by rw [List.getElem?_map, hp0]; rfl
  have i0 := hok p0 (List.mem_of_getElem? hp0)
  refine calls_of Tryz.func19 rfl Tryz.ntmps19 rfl (St.start w) (args := [.slice (some ⟨bl, off, none⟩) ps.length c, .int .i64 0]) ?_
  refine cw_sr ?_
  refine steps_s (s_allocA 4 rfl zer53 fun b4 => ?_)  -- bound.go:46
  refine steps_q rfl (q_assign rfl) ?_  -- bound.go:46
  refine steps_nil ?_
  refine cw_seq ?_
  refine cw_sr ?_
  refine steps_q rfl (q_move rfl) ?_  -- bound.go:47
  refine steps_q rfl (q_lenSl Tryz.underlying22 rfl) ?_  -- bound.go:47
  refine steps_q rfl (q_bin rfl rfl (eql_f (by omega))) ?_  -- bound.go:47
  refine steps_q rfl (q_move rfl) ?_  -- bound.go:47
  refine steps_gq rfl rfl rfl (q_move rfl) ?_  -- bound.go:47
  refine steps_gq rfl rfl rfl (q_bin rfl rfl (lss_f (by decide))) ?_  -- bound.go:47
  refine steps_q rfl (q_pick_f rfl rfl) ?_  -- bound.go:47
  refine steps_q rfl (q_move rfl) ?_  -- bound.go:47
  refine steps_gq rfl rfl rfl (q_move rfl) ?_  -- bound.go:47
  refine steps_gq rfl rfl rfl (q_bin rfl rfl (gtr_f (by decide))) ?_  -- bound.go:47
  refine steps_q rfl (q_pick_f rfl rfl) ?_  -- bound.go:47
  refine steps_nil ?_
  refine cw_cond _ rfl (fun hc1 => ?_) (fun hc1 => ?_)
  · cases hc1
  · -- no 1
    refine cw_skip ?_
    refine at_then ?_
    refine cw_sd mixed [0, 1, 2, 3, 4, 5, 6] 2 (without _ [6]) (by kernel_rfl) (sub_without _ _) ?_
    refine qi_q rfl rfl (q_move rfl) ?_  -- bound.go:50
    refine qi_q rfl rfl (q_indexSl slc22 rfl rfl (Int.le_refl 0) (by omega)) ?_  -- bound.go:50
    refine qi_q rfl rfl (q_loadAo agg47 rfl hb (by simp) (hpt _ _ hp0l)) ?_  -- bound.go:50
    refine qi_q rfl rfl (q_move rfl) ?_  -- bound.go:50
    refine qi_q rfl rfl (q_indexSl slc22 rfl rfl (Int.le_refl 0) (by omega)) ?_  -- bound.go:50
    refine qi_q rfl rfl (q_loadAo agg47 rfl hb (by simp) (hpt _ _ hp0l)) ?_  -- bound.go:50
    refine qi_q rfl rfl (q_build (vs := [(0, _), (1, _)]) rfl rfl (bldB ⟨p0, p0⟩)) ?_  -- bound.go:50
    refine qi_nil ?_
    refine tail_one 7 (by kernel_rfl) rfl rfl (s_allocA 6 rfl zer53 fun b6 => ⟨(subl_cons rfl (sub_without _ _)), ?_⟩)  -- bound.go:50
    refine tail_one 8 (by kernel_rfl) rfl rfl (s_storeW 6 siz53 rfl rfl rfl rfl rfl rfl ⟨(subl_cons rfl (subl_cons rfl (sub_without _ _))), ?_⟩)  -- bound.go:50
    refine tail_nil (by kernel_rfl) ?_
    refine cw_seq ?_
    refine cw_sr ?_
    refine steps_q rfl (q_move rfl) ?_  -- bound.go:51
    refine steps_q rfl (q_lenSl Tryz.underlying22 rfl) ?_  -- bound.go:51
    refine steps_q rfl (q_move rfl) ?_  -- bound.go:51
    refine steps_nil ?_
    refine cw_block ?_
    -- LOOP 1 writes [8, 30, 31, 32, 33, 34, 35, 36, 37, 38, 39, 40, 41, 42, 43, 44, 45, 46, 47]  stores via [4, 6, 8]  reads [4, 6, 28, 29]
    refine cw_loop (S := Nat × Bd) (fun s => [(1, .int .i64 0), (4, .pointer (some ⟨b4, 0, none⟩)), (6, .pointer (some ⟨b6, 0, none⟩)), (28, .slice (some ⟨bl, off, none⟩) ps.length c), (29, .int .i64 ps.length), (30, .int .i64 s.1)]) (fun s => [(4, (b4, .cells (Bd.l ⟨⟨0, 0, 0⟩, ⟨0, 0, 0⟩⟩).toArray 53 (0, 0))), (6, (b6, .cells s.2.l.toArray 53 (0, 0)))]) (fun s => s.1 ≤ ps.length ∧ s.2.low.In 268435456 ∧ s.2.high.In 268435456 ∧ leP s.2.low s.2.high ∧ ∀ (k : Nat) (p : Pt), ps[k]? = some p → k < s.1 → leP s.2.low p ∧ leP p s.2.high) (fun s => ps.length - s.1) (0, ⟨p0, p0⟩) ⟨by dsimp only; omega, i0, i0, ⟨Int.le_refl _, Int.le_refl _, Int.le_refl _⟩, fun k p _ hk => by dsimp only at hk; omega⟩ (subs ⟨rfl, rfl, rfl, rfl, rfl, rfl, trivial⟩) (subs ⟨rfl, rfl, trivial⟩) ?_
    rintro ⟨i, b⟩ ⟨i1, hl, hh, hle, hz⟩
    dsimp only at i1 hl hh hle hz
    conv => enter [7]; dsimp only
    conv => enter [8]; dsimp only
    refine cw_sr ?_
    refine steps_q rfl (q_bin rfl rfl rfl) ?_  -- bound.go:51
    refine steps_nil ?_
    refine cw_seq ?_
    refine cw_cond _ rfl (fun hc2 => ?_) (fun hc2 => ?_)
    · -- yes 2
      have hc : (i : Int) < ps.length := of_decide_eq_true hc2
      obtain ⟨p, hp⟩ : ∃ p, ps[i]? = some p := ⟨ps[i]'(by omega), List.getElem?_eq_getElem (by omega)⟩
      have hpl : (ps.map Pt.l)[(i : Int).toNat]? = some p.l := by rw [Int.toNat_natCast, List.getElem?_map, hp]; rfl
      have hpi := hok p (List.mem_of_getElem? hp)
      refine cw_skip ?_
      refine at_then ?_
      refine cw_seq ?_
      refine cw_block ?_
      refine cw_sr ?_
      refine steps_q rfl (q_indexSl slc22 rfl rfl (by omega) hc) ?_  -- bound.go:51
      refine steps_q rfl (q_loadAo agg47 rfl hb (by simp) (hpt _ _ hpl)) ?_  -- bound.go:51
      refine steps_s (s_allocA 8 rfl zer47 fun b8 => ?_)  -- bound.go:51
      refine steps_s (s_storeW 8 siz47 rfl rfl rfl rfl rfl rfl ?_)  -- bound.go:51
      refine steps_nil ?_
      refine cw_seq ?_
      refine cw_sr ?_
      refine steps_q rfl (q_loadW 8 agg47 rfl rfl rfl) ?_  -- bound.go:52
      refine steps_q rfl (q_pure ent16 rfl (grid_Check p)) ?_  -- bound.go:52
      refine steps_q rfl (q_bin rfl rfl (neq_f (errP_in hpi))) ?_  -- bound.go:52
      refine steps_nil ?_
      refine cw_cond _ rfl (fun hc3 => ?_) (fun hc3 => ?_)
      · cases hc3
      · -- no 3
        refine cw_skip ?_
        refine at_then ?_
        refine cw_meet (fun _ => [(1, .int .i64 0), (4, .pointer (some ⟨b4, 0, none⟩)), (6, .pointer (some ⟨b6, 0, none⟩)), (28, .slice (some ⟨bl, off, none⟩) ps.length c), (29, .int .i64 ps.length), (30, .int .i64 i)]) (fun _ => [(4, (b4, .cells (Bd.l ⟨⟨0, 0, 0⟩, ⟨0, 0, 0⟩⟩).toArray 53 (0, 0))), (6, (b6, .cells (Bd.l ⟨ptMin b.low p, ptMax b.high p⟩).toArray 53 (0, 0)))]) ?_ ?_
        · -- the orders of region 9
          refine cw_draw mixed [0, 2, 4, 6] 6 (without _ [6]) (by kernel_rfl) (sub_without _ _) ?_
          refine qi_q rfl rfl (q_field fld53_0 rfl) ?_  -- bound.go:55
          refine qi_q rfl rfl (q_loadW 8 agg47 rfl rfl rfl) ?_  -- bound.go:55
          refine qi_q rfl rfl (q_field fld53_1 rfl) ?_  -- bound.go:55
          refine qi_q rfl rfl (q_loadW 8 agg47 rfl rfl rfl) ?_  -- bound.go:55
          refine qi_nil ?_
          refine tail_cons [1, 5] (by kernel_rfl) ⟨⟨_, rfl, rfl, ?_⟩, ⟨_, rfl, rfl, ?_⟩, trivial⟩
          · refine (q_loadA 6 agg47 rfl rfl (bd0 b)).step rfl (by decide) ⟨(sub_without _ _), ?_⟩
            refine tail_q 3 (by kernel_rfl) ?_
            refine qi_q rfl rfl (q_pure ent32 rfl (bound_least b.low p)) ?_  -- bound.go:55
            refine qi_nil ?_
            refine tail_one 5 (by kernel_rfl) rfl rfl ((q_loadA 6 agg47 rfl rfl (bd1 b)).step rfl (by decide) ⟨(sub_without _ _), ?_⟩)  -- bound.go:55
            refine tail_q 7 (by kernel_rfl) ?_
            refine qi_q rfl rfl (q_pure ent33 rfl (bound_most b.high p)) ?_  -- bound.go:55
            refine qi_nil ?_
            refine tail_q 8 (by kernel_rfl) ?_
            refine qi_q rfl rfl (q_build (vs := [(0, _), (1, _)]) rfl rfl (bldB ⟨ptMin b.low p, ptMax b.high p⟩)) ?_  -- bound.go:55
            refine qi_nil ?_
            refine tail_one 9 (by kernel_rfl) rfl rfl (s_storeW 6 siz53 rfl rfl rfl rfl rfl rfl ⟨(subl_cons rfl (sub_without _ _)), ?_⟩)  -- bound.go:55
            refine tail_nil (by kernel_rfl) ?_
            exact at_join () (trivial) (subs ⟨rfl, rfl, rfl, rfl, rfl, rfl, trivial⟩) (subs ⟨rfl, rfl, trivial⟩)
          · refine (q_loadA 6 agg47 rfl rfl (bd1 b)).step rfl (by decide) ⟨(sub_without _ _), ?_⟩
            refine tail_one 1 (by kernel_rfl) rfl rfl ((q_loadA 6 agg47 rfl rfl (bd0 b)).step rfl (by decide) ⟨(sub_without _ _), ?_⟩)  -- bound.go:55
            refine tail_q 3 (by kernel_rfl) ?_
            refine qi_q rfl rfl (q_pure ent32 rfl (bound_least b.low p)) ?_  -- bound.go:55
            refine qi_nil ?_
            refine tail_q 7 (by kernel_rfl) ?_
            refine qi_q rfl rfl (q_pure ent33 rfl (bound_most b.high p)) ?_  -- bound.go:55
            refine qi_nil ?_
            refine tail_q 8 (by kernel_rfl) ?_
            refine qi_q rfl rfl (q_build (vs := [(0, _), (1, _)]) rfl rfl (bldB ⟨ptMin b.low p, ptMax b.high p⟩)) ?_  -- bound.go:55
            refine qi_nil ?_
            refine tail_one 9 (by kernel_rfl) rfl rfl (s_storeW 6 siz53 rfl rfl rfl rfl rfl rfl ⟨(subl_cons rfl (sub_without _ _)), ?_⟩)  -- bound.go:55
            refine tail_nil (by kernel_rfl) ?_
            exact at_join () (trivial) (subs ⟨rfl, rfl, rfl, rfl, rfl, rfl, trivial⟩) (subs ⟨rfl, rfl, trivial⟩)
        · -- behind region 9
          refine at_then ?_
          refine cw_region ?_
          refine steps_q rfl (q_bin rfl rfl (add64 (by omega) (by omega))) ?_  -- bound.go:51
          refine steps_q rfl (q_move rfl) ?_  -- bound.go:51
          refine steps_nil ?_
          exact at_round (i + 1, ⟨ptMin b.low p, ptMax b.high p⟩) ⟨by dsimp only; omega, minmax_in hl hpi, minmax_in' hh hpi, minmax_le hle, minmax_all hz hp⟩ (by dsimp only; omega) (subs ⟨rfl, rfl, rfl, rfl, rfl, by dsimp only; rw [show ((i + 1 : Nat) : Int) = i + 1 by omega]; rfl, trivial⟩) (subs ⟨rfl, rfl, trivial⟩)
    · -- no 2
      have hc : ¬ (i : Int) < ps.length := of_decide_eq_false hc2
      have hall : ∀ p ∈ ps, leP b.low p ∧ leP p b.high := fun p hp => by
        obtain ⟨k, hk⟩ := List.mem_iff_getElem?.1 hp
        exact hz k p hk (by have := (List.getElem?_eq_some_iff.1 hk).1; omega)
      refine cw_exit ?_
      refine at_then ?_
      refine cw_sr ?_
      refine steps_q rfl (q_loadW 6 agg53 rfl rfl rfl) ?_  -- bound.go:57
      refine steps_q rfl (q_move rfl) ?_  -- bound.go:57
      refine steps_q rfl (q_pure ent34 rfl (bound_Grow0 (okB_of hl hh hle))) ?_  -- bound.go:57
      refine steps_s (s_storeW 4 siz53 rfl rfl rfl rfl rfl rfl ?_)  -- bound.go:57
      refine steps_q rfl (q_assign rfl) ?_  -- bound.go:57
      refine steps_nil ?_
      refine cw_ret ?_
      exact ret_st rfl (rv_agg 4 agg53 rfl rfl rfl (rv_tmp rfl rv_nil)) rfl ⟨b, hl, hh, hle, hall, rfl, rfl⟩ fun w' hw => hw.weaken (subs trivial)
theorem bound_Meet {a b : Bd} (ha : okB a) (hb : okB b) (hm : okB ⟨ptMax a.low b.low, ptMin a.high b.high⟩) : PureF Tryz.prog 20 [.agg a.l.toArray, .agg b.l.toArray] (.bool true) := by
  refine pure_of Tryz.func20 rfl Tryz.ntmps20 rfl fun w => ?_
  refine cw_sr ?_
  refine steps_s (s_boxA 2 rfl rfl fun b2 => ?_)  -- bound.go:61
  refine steps_s (s_boxA 3 rfl rfl fun b3 => ?_)  -- bound.go:61
  refine steps_q rfl (q_assign rfl) ?_  -- bound.go:61
  refine steps_nil ?_
  refine cw_sd mixed [0, 1] 18 (without _ [7, 21]) (by kernel_rfl) (sub_without _ _) ?_
  refine qi_q rfl rfl (q_loadW 2 agg53 rfl rfl rfl) ?_  -- bound.go:62
  refine qi_q rfl rfl (q_loadW 3 agg53 rfl rfl rfl) ?_  -- bound.go:62
  refine qi_nil ?_
  refine tail_one 2 (by kernel_rfl) rfl rfl (s_buildSl 7 rfl rfl rfl (bslB2 a b) fun b7 => ⟨(subl_cons rfl (sub_without _ _)), ?_⟩)  -- bound.go:62
  refine tail_one 3 (by kernel_rfl) rfl rfl (Quiet.step rfl (by decide) (q_call (fs := #[]) (cs := #[]) ent35 rfl rfl (fun w' hw => by simpa using bound_may_ok (bs := [a, b]) w' (told_b2 (i := 7) hw rfl) (by simp) (fun x hx => by rcases List.mem_cons.1 hx with rfl | hx; exact ha; rw [List.mem_singleton.1 hx]; exact hb))) ⟨(subl_cons rfl (sub_without _ _)), ?_⟩)  -- bound.go:62
  refine tail_q 4 (by kernel_rfl) ?_
  refine qi_q rfl rfl (q_move rfl) ?_  -- bound.go:62
  refine qi_nil ?_
  refine tail_q 5 (by kernel_rfl) ?_
  refine qi_gq rfl rfl rfl rfl (q_field fld53_0 rfl) ?_  -- bound.go:62
  refine qi_nil ?_
  refine tail_q 6 (by kernel_rfl) ?_
  refine qi_gq rfl rfl rfl rfl (q_loadA 2 agg47 rfl rfl (bd0 a)) ?_  -- bound.go:62
  refine qi_nil ?_
  refine tail_q 7 (by kernel_rfl) ?_
  refine qi_gq rfl rfl rfl rfl (q_field fld53_0 rfl) ?_  -- bound.go:62
  refine qi_nil ?_
  refine tail_q 8 (by kernel_rfl) ?_
  refine qi_gq rfl rfl rfl rfl (q_loadA 3 agg47 rfl rfl (bd0 b)) ?_  -- bound.go:62
  refine qi_nil ?_
  refine tail_q 9 (by kernel_rfl) ?_
  refine qi_gq rfl rfl rfl rfl (q_pure ent33 rfl (bound_most a.low b.low)) ?_  -- bound.go:62
  refine qi_nil ?_
  refine tail_q 10 (by kernel_rfl) ?_
  refine qi_gq rfl rfl rfl rfl (q_field fld53_1 rfl) ?_  -- bound.go:62
  refine qi_nil ?_
  refine tail_q 11 (by kernel_rfl) ?_
  refine qi_gq rfl rfl rfl rfl (q_loadA 2 agg47 rfl rfl (bd1 a)) ?_  -- bound.go:62
  refine qi_nil ?_
  refine tail_q 12 (by kernel_rfl) ?_
  refine qi_gq rfl rfl rfl rfl (q_field fld53_1 rfl) ?_  -- bound.go:62
  refine qi_nil ?_
  refine tail_q 13 (by kernel_rfl) ?_
  refine qi_gq rfl rfl rfl rfl (q_loadA 3 agg47 rfl rfl (bd1 b)) ?_  -- bound.go:62
  refine qi_nil ?_
  refine tail_q 14 (by kernel_rfl) ?_
  refine qi_gq rfl rfl rfl rfl (q_pure ent32 rfl (bound_least a.high b.high)) ?_  -- bound.go:62
  refine qi_nil ?_
  refine tail_q 15 (by kernel_rfl) ?_
  refine qi_gq rfl rfl rfl rfl (q_build (vs := [(0, _), (1, _)]) rfl rfl (bldB ⟨ptMax a.low b.low, ptMin a.high b.high⟩)) ?_  -- bound.go:62
  refine qi_nil ?_
  refine tail_one_g 16 (by kernel_rfl) rfl rfl rfl rfl (s_buildSl 21 rfl rfl rfl (bslB ⟨ptMax a.low b.low, ptMin a.high b.high⟩) fun b21 => ⟨(subl_cons rfl (subl_cons rfl (sub_without _ _))), ?_⟩)  -- bound.go:62
  refine tail_one_g 17 (by kernel_rfl) rfl rfl rfl rfl (Quiet.step rfl (by decide) (q_call (fs := #[]) (cs := #[]) ent35 rfl rfl (fun w' hw => by simpa using bound_may_ok (bs := [⟨ptMax a.low b.low, ptMin a.high b.high⟩]) w' (told_b1 (i := 21) hw rfl) (by simp) (fun x hx => by rw [List.mem_singleton.1 hx]; exact hm))) ⟨(subl_cons rfl (subl_cons rfl (sub_without _ _))), ?_⟩)  -- bound.go:62
  refine tail_q 18 (by kernel_rfl) ?_
  refine qi_q rfl rfl (q_pick_t rfl rfl) ?_  -- bound.go:62
  refine qi_nil ?_
  refine tail_q 19 (by kernel_rfl) ?_
  refine qi_q rfl rfl (q_assign rfl) ?_  -- bound.go:62
  refine qi_nil ?_
  refine tail_nil (by kernel_rfl) ?_
  refine cw_ret ?_
  exact ret_pure rfl (rv_tmp rfl rv_nil) rfl
end Go.Proofs.YtomdahjakkifbaaGreat

/-
  What GjkBoth leans on: turned over, moved, shared points, bounds that do not meet.
-/
namespace Go.Proofs.YtomdahjakkifbaaGreat
open Go Go.NP Go.RowKit Go.Proofs
set_option maxRecDepth 100000

/-! ## Turned over -/
def negP (p : Pt) : Pt := ⟨-p.x, -p.y, -p.z⟩
def negS (s : Sp) : Sp := ⟨-s.x, -s.y, -s.z⟩
theorem comb_neg : ∀ (u : List Int) (T : List Pt), comb u (T.map negP) = negS (comb u T)
  | [], [] => rfl
  | [], _ :: _ => rfl
  | _ :: _, [] => rfl
  | u :: us, q :: qs => by
    simp only [List.map_cons, comb, comb_neg us qs, addW, negS, negP, Sp.mk.injEq, Int.mul_neg]
    omega
theorem negS_zero {s : Sp} (h : negS s = ⟨0, 0, 0⟩) : s = ⟨0, 0, 0⟩ := by
  cases s
  simp only [negS, Sp.mk.injEq] at h ⊢
  omega
theorem AI.neg {T : List Pt} (h : AI T) : AI (T.map negP) := fun u hu h0 hc => by
  rw [comb_neg] at hc
  exact h u (by simpa using hu) h0 (negS_zero hc)
theorem ptI_neg (T : List Pt) (i : Int) : ptI (T.map negP) i = negP (ptI T i) := by
  simp only [ptI, List.getD_eq_getElem?_getD, List.getElem?_map]
  cases T[i.toNat]? <;> rfl
theorem eI_neg (T : List Pt) (i : Int) : eI (T.map negP) i = negP (eI T i) := by
  simp only [eI, ptI_neg, subP, negP, Pt.mk.injEq]
  omega
theorem dotS_negP (p q : Pt) : dotS (negP p).sp (negP q) = dotS p.sp q := by
  simp only [dotS, negP, Pt.sp, Int.neg_mul_neg]
theorem gI_neg (T : List Pt) : gI (T.map negP) = gI T := by
  funext i k
  simp only [gI, eI_neg, ptI_neg, dotS_negP, List.length_map]
theorem dI_neg (T : List Pt) : dI (T.map negP) = dI T := by simp only [dI, gI_neg, List.length_map]
theorem wI_neg (T : List Pt) : wI (T.map negP) = wI T := by simp only [wI, msI, dI_neg, gI_neg, List.length_map]
theorem nI_neg (T : List Pt) : nI (T.map negP) = negS (nI T) := by simp only [nI, wI_neg, comb_neg]
theorem Good.neg {S : List Pt} (h : Good S) : Good (S.map negP) := ⟨by simpa using h.ne, by simpa using h.le, h.ai.neg, by rw [wI_neg]; exact h.pos⟩
theorem gcdC_neg (d : Int) (s : Sp) : ∀ k : Nat, gcdC d (negS s) k = gcdC d s k
  | 0 => rfl
  | k + 1 => by
    have e : (negS s).c k = -(s.c k) := by simp only [Sp.c, negS]; split <;> (try split) <;> rfl
    simp only [gcdC, gcdC_neg d s k, e, Int.gcd_neg]
theorem nrSum_neg (N : Sp) (d : Int) : (nrSum (negS N) d).n = negS (nrSum N d).n ∧ (nrSum (negS N) d).d = (nrSum N d).d := by
  obtain ⟨h0, h1, h2, h3⟩ := gcdC_dvd d N
  refine ⟨?_, ?_⟩
  · simp only [nrSum, gcdC_neg]
    simp only [negS, Sp.mk.injEq]
    exact ⟨Int.neg_ediv_of_dvd h1, Int.neg_ediv_of_dvd h2, Int.neg_ediv_of_dvd h3⟩
  · simp only [nrSum, gcdC_neg]
theorem sub_neg (p q : Pt) : subP q p = negP (subP p q) := by
  simp only [subP, negP, Pt.mk.injEq]; omega
theorem mem_dif {a b : List Pt} {r : Pt} : r ∈ dif a b ↔ ∃ p ∈ a, ∃ q ∈ b, subP p q = r := by
  simp only [dif, List.mem_flatMap, List.mem_map]
theorem dif_neg {a b : List Pt} {r : Pt} (h : r ∈ dif b a) : ∃ s ∈ dif a b, r = negP s := by
  obtain ⟨q, hq, p, hp, rfl⟩ := mem_dif.1 h
  exact ⟨subP p q, mem_dif.2 ⟨p, hp, q, hq, rfl⟩, sub_neg p q⟩
theorem neg_dif {a b : List Pt} {r : Pt} (h : r ∈ dif a b) : negP r ∈ dif b a := by
  obtain ⟨p, hp, q, hq, rfl⟩ := mem_dif.1 h
  exact mem_dif.2 ⟨q, hq, p, hp, sub_neg p q⟩
theorem sel_mem {ps : List Pt} {o : List Int} (h : Own ps o) {q : Pt} (hq : q ∈ sel ps o) : q ∈ ps := by
  obtain ⟨k, hk, rfl⟩ := List.mem_map.1 hq
  have := h.at' k hk
  exact List.mem_of_getElem? (ptI_get this.1 this.2)
theorem dotS_neg2 (N : Sp) (p : Pt) : dotS (negS N) (negP p) = dotS N p := by simp only [dotS, negS, negP, Int.neg_mul_neg]
theorem sqS_neg (N : Sp) : sqS (negS N) = sqS N := by simp only [sqS, negS, Int.neg_mul_neg]
theorem nr_neg {a b : List Pt} {o o2 : List Int} (h : Ends (dif a b) o) (h2 : Ends (dif b a) o2) :
    (nrOf (sel (dif b a) o2)).n = negS (nrOf (sel (dif a b) o)).n ∧ (nrOf (sel (dif b a) o2)).d = (nrOf (sel (dif a b) o)).d := by
  have g1 := h.1.good
  have g2 := h2.1.good
  have hA : Ahead (sel (dif b a) o2) (nI ((sel (dif a b) o).map negP)) (dI ((sel (dif a b) o).map negP)) := fun q hq => by
    obtain ⟨s, hs, rfl⟩ := dif_neg (sel_mem h2.1 hq)
    rw [nI_neg, dI_neg, sqS_neg, dotS_neg2]
    exact h.2 s hs
  have hB : Ahead ((sel (dif a b) o).map negP) (nI (sel (dif b a) o2)) (dI (sel (dif b a) o2)) := fun q hq => by
    obtain ⟨s, hs, rfl⟩ := List.mem_map.1 hq
    exact h2.2 _ (neg_dif (sel_mem h.1 hs))
  have hs := nrSum_eq (same_of_ahead g1.neg g2 hA hB) (by have := g1.neg.dpos; omega) (by have := g2.dpos; omega)
  rw [nI_neg, dI_neg] at hs
  have hn := nrSum_neg (nI (sel (dif a b) o)) (dI (sel (dif a b) o))
  rw [hs] at hn
  exact hn

/-! ## Moved -/
def addP (n p : Pt) : Pt := ⟨p.x + n.x, p.y + n.y, p.z + n.z⟩
theorem dif_moved (n : Pt) (a b : List Pt) : dif (a.map (addP n)) (b.map (addP n)) = dif a b := by
  simp only [dif, List.flatMap_map, List.map_map]
  congr 1
  funext p
  congr 1
  funext q
  simp only [Function.comp, subP, addP, Pt.mk.injEq]
  omega

/-! ## The middle -/
theorem nr_zero {ps : List Pt} {o : List Int} (h : Ends ps o) : (nrOf (sel ps o)).n = ⟨0, 0, 0⟩ ↔ nI (sel ps o) = ⟨0, 0, 0⟩ := by
  have hd := h.1.good.dpos
  obtain ⟨e1, e2, e3⟩ := nrSum_same (nI (sel ps o)) (dI (sel ps o))
  have hp := nrSum_pos (N := nI (sel ps o)) (d := dI (sel ps o)) (by omega)
  change (nrSum (nI (sel ps o)) (dI (sel ps o))).n = _ ↔ _
  generalize nrSum (nI (sel ps o)) (dI (sel ps o)) = M at *
  obtain ⟨⟨x, y, z⟩, e, s⟩ := M
  generalize dI (sel ps o) = d at *
  generalize nI (sel ps o) = N at *
  obtain ⟨u, v, t⟩ := N
  dsimp only at *
  simp only [Sp.mk.injEq]
  constructor
  · rintro ⟨rfl, rfl, rfl⟩
    simp only [Int.mul_zero] at e1 e2 e3
    exact ⟨mul0 (by omega) e1, mul0 (by omega) e2, mul0 (by omega) e3⟩
  · rintro ⟨rfl, rfl, rfl⟩
    simp only [Int.mul_zero] at e1 e2 e3
    exact ⟨mul0 (by omega) e1.symm, mul0 (by omega) e2.symm, mul0 (by omega) e3.symm⟩
theorem shared_meets {a b : List Pt} {o : List Int} (h : Ends (dif a b) o) {p : Pt} (ha : p ∈ a) (hb : p ∈ b) : (nrOf (sel (dif a b) o)).n = ⟨0, 0, 0⟩ := by
  refine (nr_zero h).2 (sqS_zero ?_)
  have h1 := h.2 (subP p p) (mem_dif.2 ⟨p, ha, p, hb, rfl⟩)
  have e : dotS (nI (sel (dif a b) o)) (subP p p) = 0 := by simp [dotS, subP]
  rw [e, Int.zero_mul] at h1
  have := sqS_nn (nI (sel (dif a b) o))
  omega
theorem meet_axis {S : List Pt} (hS : Good S) (h0 : nI S = ⟨0, 0, 0⟩) (v : Sp) (h : ∀ q ∈ S, 1 ≤ dotS v q) : False := by
  have hw := wI_len (nz_of_len hS.ne)
  have h1 := comb_ge (v := v) (a := 1) (b := 1) hw (fun x hx => Int.le_of_lt (hS.pos x hx)) (fun q hq => by have := h q hq; omega)
  change 1 * tot (wI S) ≤ dotV v (nI S) * 1 at h1
  have hd := hS.dpos
  rw [wI_tot, h0] at h1
  simp [dotV] at h1
  omega
theorem bounds_meet {a b : List Pt} {o : List Int} {p q : Bd} (h : Ends (dif a b) o) (h0 : (nrOf (sel (dif a b) o)).n = ⟨0, 0, 0⟩) (hp : leP p.low p.high) (hq : leP q.low q.high) (ha : ∀ r ∈ a, leP p.low r ∧ leP r p.high) (hb : ∀ r ∈ b, leP q.low r ∧ leP r q.high) :
    leP (ptMax p.low q.low) (ptMin p.high q.high) := by
  have hN := (nr_zero h).1 h0
  have key : ∀ v : Sp, ¬ ∀ r ∈ a, ∀ s ∈ b, 1 ≤ dotS v (subP r s) := fun v hv => meet_axis h.1.good hN v fun r hr => by
    obtain ⟨x, hx, y, hy, rfl⟩ := mem_dif.1 (sel_mem h.1 hr)
    exact hv x hx y hy
  have x1 : p.low.x ≤ q.high.x := Classical.byContradiction fun hc => key ⟨1, 0, 0⟩ fun r hr s hs => by
    have h1 := (ha r hr).1.1; have h2 := (hb s hs).2.1
    simp [dotS, subP]; omega
  have y1 : p.low.y ≤ q.high.y := Classical.byContradiction fun hc => key ⟨0, 1, 0⟩ fun r hr s hs => by
    have h1 := (ha r hr).1.2.1; have h2 := (hb s hs).2.2.1
    simp [dotS, subP]; omega
  have z1 : p.low.z ≤ q.high.z := Classical.byContradiction fun hc => key ⟨0, 0, 1⟩ fun r hr s hs => by
    have h1 := (ha r hr).1.2.2; have h2 := (hb s hs).2.2.2
    simp [dotS, subP]; omega
  have x2 : q.low.x ≤ p.high.x := Classical.byContradiction fun hc => key ⟨-1, 0, 0⟩ fun r hr s hs => by
    have h1 := (ha r hr).2.1; have h2 := (hb s hs).1.1
    simp [dotS, subP]; omega
  have y2 : q.low.y ≤ p.high.y := Classical.byContradiction fun hc => key ⟨0, -1, 0⟩ fun r hr s hs => by
    have h1 := (ha r hr).2.2.1; have h2 := (hb s hs).1.2.1
    simp [dotS, subP]; omega
  have z2 : q.low.z ≤ p.high.z := Classical.byContradiction fun hc => key ⟨0, 0, -1⟩ fun r hr s hs => by
    have h1 := (ha r hr).2.2.2; have h2 := (hb s hs).1.2.2
    simp [dotS, subP]; omega
  simp only [leP, ptMax, ptMin] at *
  omega

/-! ## What stands against few points of small numbers -/
theorem errG_small {a : List Pt} (ha : okPts a) (hl : a.length ≤ 256) : errG a = if a.length = 0 then 2 else 0 := by
  unfold errG; rw [if_pos ha, if_neg (by omega)]
theorem errL_small {a b : List Pt} (ha : okPts a) (hb : okPts b) (hla : a.length ≤ 60) (hlb : b.length ≤ 60) (hl : a.length * b.length ≤ 60) (hd : okPts (dif a b)) : errL a b = if a.length = 0 ∨ b.length = 0 then 2 else 0 := by
  have ea := errG_small ha (by omega)
  have eb := errG_small hb (by omega)
  have hdl := dif_len a b
  have ed := errG_small hd (by omega)
  have eb2 : errG b = 2 ∨ errG b = 0 := by rw [eb]; split <;> simp
  have ea2 : errG a = 2 ∨ errG a = 0 := by rw [ea]; split <;> simp
  unfold errL
  rw [if_neg (by omega), if_neg (by omega)]
  by_cases h1 : a.length = 0
  · rw [if_pos h1] at ea
    rw [if_pos (.inl ea), if_pos (.inl h1)]
  · by_cases h2 : b.length = 0
    · rw [if_pos h2] at eb
      rw [if_pos (.inr eb), if_pos (.inr h2)]
    · have := Nat.mul_pos (Nat.pos_of_ne_zero h1) (Nat.pos_of_ne_zero h2)
      rw [if_neg h1] at ea
      rw [if_neg h2] at eb
      rw [if_neg (by omega), if_neg (by omega), ed, if_neg (show ¬ (dif a b).length = 0 by omega), if_neg (by omega)]
def small (k : Int) (a : List Pt) : Prop := ∀ p ∈ a, p.In k
theorem dif_ok {a b : List Pt} (ha : small 134217728 a) (hb : small 134217728 b) : okPts (dif a b) := fun r hr => by
  obtain ⟨p, hp, q, hq, rfl⟩ := mem_dif.1 hr
  exact (sub_bd (ha p hp) (hb q hq)).mono (by decide)
theorem small.mono {j k : Int} {a : List Pt} (h : small j a) (hk : j ≤ k) : small k a := fun p hp => (h p hp).mono hk
theorem small.ok {a : List Pt} (h : small 134217728 a) : okPts a := fun p hp => (h p hp).mono (by decide)
theorem small.moved {n : Pt} {a : List Pt} (h : small 67108864 a) (hn : n.In 33554432) : small 134217728 (a.map (addP n)) := fun r hr => by
  obtain ⟨p, hp, rfl⟩ := List.mem_map.1 hr
  have := h p hp
  simp only [Pt.In, addP] at *
  omega
instance (k : Int) (a : List Pt) : Decidable (small k a) := by unfold small; exact inferInstance

/-! ## The law's own functions -/
theorem tdiv8 {a : Int} (h0 : -268435456 ≤ a) (h1 : a ≤ 268435456) : -33554432 ≤ a.tdiv 8 ∧ a.tdiv 8 ≤ 33554432 := by
  rcases Int.le_total 0 a with h | h
  · rw [Int.tdiv_eq_ediv_of_nonneg h]; omega
  · have e : a.tdiv 8 = -((-a).tdiv 8) := by rw [Int.neg_tdiv]; omega
    rw [e, Int.tdiv_eq_ediv_of_nonneg (by omega)]; omega
theorem quo8 {a : Int} (h0 : -268435456 ≤ a) (h1 : a ≤ 268435456) : binI .quo .i64 a .i64 8 = some (.int .i64 (a.tdiv 8)) := by
  have := tdiv8 h0 h1
  simp only [binI]
  rw [if_pos ⟨trivial, by decide⟩, IntWalk.i64_in _ ⟨by omega, by omega⟩]
theorem law_opposite {n : Int} (h : Fits n) (hn : Fits (-n)) : PureF Tryz.prog 18 [.agg (Wl n).toArray] (.agg (Wl (-n)).toArray) := by
  refine pure_of Tryz.func18 rfl Tryz.ntmps18 rfl fun w => ?_
  refine cw_sr ?_
  refine steps_s (s_boxA 1 rfl rfl fun b1 => ?_)  -- outright.go:72
  refine steps_s (s_allocA 2 rfl zer31 fun b2 => ?_)  -- outright.go:72
  refine steps_nil ?_
  refine cw_sr ?_
  refine steps_q rfl (q_loadW 1 agg31 rfl rfl rfl) ?_  -- outright.go:73
  refine steps_q rfl (q_pure ent31 rfl (wide_Neg h hn)) ?_  -- outright.go:73
  refine steps_q rfl (q_move rfl) ?_  -- outright.go:73
  refine steps_q rfl (q_extract rfl rfl) ?_  -- outright.go:73
  refine steps_q rfl (q_extract rfl rfl) ?_  -- outright.go:73
  refine steps_s (s_allocA 3 rfl zer31 fun b3 => ?_)  -- outright.go:73
  refine steps_s (s_storeW 3 siz31 rfl rfl rfl rfl rfl rfl ?_)  -- outright.go:73
  refine steps_q rfl (q_assign rfl) ?_  -- outright.go:73
  refine steps_nil ?_
  refine cw_sr ?_
  refine steps_q rfl (q_loadW 3 agg31 rfl rfl rfl) ?_  -- outright.go:74
  refine steps_s (s_storeW 2 siz31 rfl rfl rfl rfl rfl rfl ?_)  -- outright.go:74
  refine steps_nil ?_
  refine cw_ret ?_
  exact ret_pure rfl (rv_agg 2 agg31 rfl rfl rfl rv_nil) rfl
/-- What moved hands back. -/
def MV (n : Pt) (ps : List Pt) (v : Value) (Ln : HL) : Prop :=
  (small 67108864 ps ∧ ((ps = [] ∧ v = .tuple #[.slice none 0 0, .bool true] ∧ Ln = []) ∨
    (ps ≠ [] ∧ ∃ g cur cap, v = .tuple #[.slice (some ⟨g, 0, none⟩) ps.length cap, .bool true] ∧ Ln = [(70, (g, .cells cur.toArray 47 (0, 0)))] ∧ SV.ok 3 (some (g, cur, cap)) ((ps.map (addP n)).map Pt.l)))) ∨
  (¬ small 67108864 ps ∧ v = .tuple #[.slice none 0 0, .bool false] ∧ Ln = [])
theorem law_moved {ps : List Pt} {v : Value} {n : Pt} (w : World) (h : PtsAt w v ps) (hlen : ps.length ≤ 1000000) (hn : n.In 33554432) :
    Calls Tryz.prog 17 #[v, .agg n.l.toArray] w fun e w' => ∃ v Ln, e = .returned v ∧ MV n ps v Ln ∧ St w [] w' Ln := by
  obtain ⟨a, c, rfl, hsl⟩ := h
  rw [List.length_map]
  obtain ⟨⟨nx0, nx1⟩, ⟨ny0, ny1⟩, ⟨nz0, nz1⟩⟩ := hn
  refine calls_of Tryz.func17 rfl Tryz.ntmps17 rfl (St.start w) (args := [.slice a ps.length c, .agg n.l.toArray]) ?_
  refine cw_sr ?_
  refine steps_s (s_boxA 3 rfl rfl fun b3 => ?_)  -- outright.go:114
  refine steps_q rfl (q_assign rfl) ?_  -- outright.go:114
  refine steps_q rfl (q_assign rfl) ?_  -- outright.go:114
  refine steps_nil ?_
  refine cw_sr ?_
  refine steps_q rfl (q_assign rfl) ?_  -- outright.go:115
  refine steps_nil ?_
  refine cw_seq ?_
  refine cw_sr ?_
  refine steps_q rfl (q_assign rfl) ?_  -- outright.go:116
  refine steps_nil ?_
  refine cw_block ?_
  -- LOOP 1 writes [6, 7, 8, 9, 10, 11, 12, 13, 14, 15, 16, 17, 18, 19, 20, 21, 22, 23, 24, 25, 26, 27, 28, 29, 30, 31, 32, 33, 34, 35, 36, 37, 38, 39, 40, 41, 42, 43, 44, 45, 46, 47, 48, 49, 50, 51, 52, 53, 54, 55]  stores via [8]  reads [0, 3]
  refine cw_loop (S := Nat × SV) (fun s => [(0, .slice a ps.length c), (3, .pointer (some ⟨b3, 0, none⟩)), (6, s.2.v s.1), (7, .int .i64 s.1)]) (fun s => ([(3, (b3, .cells n.l.toArray 47 (0, 0)))] : HL) ++ s.2.l 70 47) (fun s => s.1 ≤ ps.length ∧ s.2.ok 3 (((ps.take s.1).map (addP n)).map Pt.l) ∧ (∀ (k : Nat) (p : Pt), ps[k]? = some p → k < s.1 → p.In 67108864) ∧ (s.1 = 0 → s.2 = none)) (fun s => ps.length - s.1) (0, none) ⟨by dsimp only; omega, by simp [SV.ok], fun k p _ hk => by dsimp only at hk; omega, fun _ => rfl⟩ (subs ⟨rfl, rfl, rfl, rfl, trivial⟩) (subs ⟨rfl, trivial⟩) ?_
  rintro ⟨i, sv⟩ ⟨i1, hsv, hz, hs0⟩
  dsimp only at i1 hsv hz hs0
  conv => enter [7]; dsimp only
  conv => enter [8]; dsimp only
  have hil : (((ps.take i).map (addP n)).map Pt.l).length = i := by simp; omega
  refine cw_seq ?_
  refine cw_sr ?_
  refine steps_q rfl (q_move rfl) ?_  -- outright.go:116
  refine steps_q rfl (q_move rfl) ?_  -- outright.go:116
  refine steps_q rfl (q_lenSl Tryz.underlying22 rfl) ?_  -- outright.go:116
  refine steps_q rfl (q_bin rfl rfl rfl) ?_  -- outright.go:116
  refine steps_nil ?_
  refine cw_cond _ rfl (fun hc1 => ?_) (fun hc1 => ?_)
  · -- yes 1
    have hc : (i : Int) < ps.length := of_decide_eq_true hc1
    obtain ⟨p, hp⟩ : ∃ p, ps[i]? = some p := ⟨ps[i]'(by omega), List.getElem?_eq_getElem (by omega)⟩
    have hpl : (ps.map Pt.l)[(i : Int).toNat]? = some p.l := by rw [Int.toNat_natCast, List.getElem?_map, hp]; rfl
    obtain ⟨b, off, l, fz, rfl, hb, hpt⟩ := hsl.resolve_left (by intro h; rw [h] at hpl; simp at hpl)
    have hti := take_more (f := addP n) hp
    refine cw_skip ?_
    refine at_then ?_
    refine cw_seq ?_
    refine cw_block ?_
    refine cw_sr ?_
    refine steps_q rfl (q_move rfl) ?_  -- outright.go:117
    refine steps_q rfl (q_move rfl) ?_  -- outright.go:117
    refine steps_q rfl (q_indexSl slc22 rfl rfl (by omega) hc) ?_  -- outright.go:117
    refine steps_q rfl (q_loadAo agg47 rfl hb (by simp) (hpt _ _ hpl)) ?_  -- outright.go:117
    refine steps_s (s_allocA 8 rfl zer47 fun b8 => ?_)  -- outright.go:117
    refine steps_s (s_storeW 8 siz47 rfl rfl rfl rfl rfl rfl ?_)  -- outright.go:117
    refine steps_nil ?_
    refine cw_seq ?_
    rcases three (67108864 < max (max p.x p.y) p.z) (min (min p.x p.y) p.z < -67108864) with hx | ⟨hx, hy⟩ | ⟨hx, hy⟩
    · -- way 6.a
      refine cw_sr ?_
      refine steps_q rfl (q_field fld47_0 rfl) ?_  -- outright.go:118
      refine steps_q rfl (q_load1 8 one2 rfl rfl rfl) ?_  -- outright.go:118
      refine steps_q rfl (q_field fld47_1 rfl) ?_  -- outright.go:118
      refine steps_q rfl (q_load1 8 one2 rfl rfl rfl) ?_  -- outright.go:118
      refine steps_q rfl (q_field fld47_2 rfl) ?_  -- outright.go:118
      refine steps_q rfl (q_load1 8 one2 rfl rfl rfl) ?_  -- outright.go:118
      refine steps_q rfl (q_max3 rfl rfl rfl) ?_  -- outright.go:118
      refine steps_q rfl (q_bin rfl rfl (gtr_t hx)) ?_  -- outright.go:118
      refine steps_q rfl (q_move rfl) ?_  -- outright.go:118
      refine steps_gn rfl rfl rfl rfl ?_  -- outright.go:118
      refine steps_gn rfl rfl rfl rfl ?_  -- outright.go:118
      refine steps_gn rfl rfl rfl rfl ?_  -- outright.go:118
      refine steps_gn rfl rfl rfl rfl ?_  -- outright.go:118
      refine steps_gn rfl rfl rfl rfl ?_  -- outright.go:118
      refine steps_gn rfl rfl rfl rfl ?_  -- outright.go:118
      refine steps_gn rfl rfl rfl rfl ?_  -- outright.go:118
      refine steps_gn rfl rfl rfl rfl ?_  -- outright.go:118
      refine steps_q rfl (q_pick_t rfl rfl) ?_  -- outright.go:118
      refine steps_nil ?_
      refine cw_cond _ rfl (fun hc2 => ?_) (fun hc2 => ?_)
      · -- yes 2
        have hbad : ¬ small 67108864 ps := fun h => by have := h p (List.mem_of_getElem? hp); simp only [Pt.In] at this; omega
        refine cw_sr ?_
        refine steps_q rfl (q_assign rfl) ?_  -- outright.go:119
        refine steps_q rfl (q_assign rfl) ?_  -- outright.go:119
        refine steps_nil ?_
        refine cw_ret ?_
        exact ret_st rfl (rv_tmp rfl (rv_tmp rfl rv_nil)) rfl (.inr ⟨hbad, rfl, rfl⟩) fun w' hw => hw.weaken (subs trivial)
      · cases hc2
    · -- way 6.b
      refine cw_sr ?_
      refine steps_q rfl (q_field fld47_0 rfl) ?_  -- outright.go:118
      refine steps_q rfl (q_load1 8 one2 rfl rfl rfl) ?_  -- outright.go:118
      refine steps_q rfl (q_field fld47_1 rfl) ?_  -- outright.go:118
      refine steps_q rfl (q_load1 8 one2 rfl rfl rfl) ?_  -- outright.go:118
      refine steps_q rfl (q_field fld47_2 rfl) ?_  -- outright.go:118
      refine steps_q rfl (q_load1 8 one2 rfl rfl rfl) ?_  -- outright.go:118
      refine steps_q rfl (q_max3 rfl rfl rfl) ?_  -- outright.go:118
      refine steps_q rfl (q_bin rfl rfl (gtr_f hx)) ?_  -- outright.go:118
      refine steps_q rfl (q_move rfl) ?_  -- outright.go:118
      refine steps_gq rfl rfl rfl (q_field fld47_0 rfl) ?_  -- outright.go:118
      refine steps_gq rfl rfl rfl (q_load1 8 one2 rfl rfl rfl) ?_  -- outright.go:118
      refine steps_gq rfl rfl rfl (q_field fld47_1 rfl) ?_  -- outright.go:118
      refine steps_gq rfl rfl rfl (q_load1 8 one2 rfl rfl rfl) ?_  -- outright.go:118
      refine steps_gq rfl rfl rfl (q_field fld47_2 rfl) ?_  -- outright.go:118
      refine steps_gq rfl rfl rfl (q_load1 8 one2 rfl rfl rfl) ?_  -- outright.go:118
      refine steps_gq rfl rfl rfl (q_min3 rfl rfl rfl) ?_  -- outright.go:118
      refine steps_gq rfl rfl rfl (q_bin rfl rfl (lss_t hy)) ?_  -- outright.go:118
      refine steps_q rfl (q_pick_f rfl rfl) ?_  -- outright.go:118
      refine steps_nil ?_
      refine cw_cond _ rfl (fun hc2 => ?_) (fun hc2 => ?_)
      · -- yes 2
        have hbad : ¬ small 67108864 ps := fun h => by have := h p (List.mem_of_getElem? hp); simp only [Pt.In] at this; omega
        refine cw_sr ?_
        refine steps_q rfl (q_assign rfl) ?_  -- outright.go:119
        refine steps_q rfl (q_assign rfl) ?_  -- outright.go:119
        refine steps_nil ?_
        refine cw_ret ?_
        exact ret_st rfl (rv_tmp rfl (rv_tmp rfl rv_nil)) rfl (.inr ⟨hbad, rfl, rfl⟩) fun w' hw => hw.weaken (subs trivial)
      · cases hc2
    · -- way 6.c
      refine cw_sr ?_
      refine steps_q rfl (q_field fld47_0 rfl) ?_  -- outright.go:118
      refine steps_q rfl (q_load1 8 one2 rfl rfl rfl) ?_  -- outright.go:118
      refine steps_q rfl (q_field fld47_1 rfl) ?_  -- outright.go:118
      refine steps_q rfl (q_load1 8 one2 rfl rfl rfl) ?_  -- outright.go:118
      refine steps_q rfl (q_field fld47_2 rfl) ?_  -- outright.go:118
      refine steps_q rfl (q_load1 8 one2 rfl rfl rfl) ?_  -- outright.go:118
      refine steps_q rfl (q_max3 rfl rfl rfl) ?_  -- outright.go:118
      refine steps_q rfl (q_bin rfl rfl (gtr_f hx)) ?_  -- outright.go:118
      refine steps_q rfl (q_move rfl) ?_  -- outright.go:118
      refine steps_gq rfl rfl rfl (q_field fld47_0 rfl) ?_  -- outright.go:118
      refine steps_gq rfl rfl rfl (q_load1 8 one2 rfl rfl rfl) ?_  -- outright.go:118
      refine steps_gq rfl rfl rfl (q_field fld47_1 rfl) ?_  -- outright.go:118
      refine steps_gq rfl rfl rfl (q_load1 8 one2 rfl rfl rfl) ?_  -- outright.go:118
      refine steps_gq rfl rfl rfl (q_field fld47_2 rfl) ?_  -- outright.go:118
      refine steps_gq rfl rfl rfl (q_load1 8 one2 rfl rfl rfl) ?_  -- outright.go:118
      refine steps_gq rfl rfl rfl (q_min3 rfl rfl rfl) ?_  -- outright.go:118
      refine steps_gq rfl rfl rfl (q_bin rfl rfl (lss_f hy)) ?_  -- outright.go:118
      refine steps_q rfl (q_pick_f rfl rfl) ?_  -- outright.go:118
      refine steps_nil ?_
      refine cw_cond _ rfl (fun hc2 => ?_) (fun hc2 => ?_)
      · cases hc2
      · -- no 2
        have hpi : p.In 67108864 := by simp only [Pt.In]; omega
        obtain ⟨⟨px0, px1⟩, ⟨py0, py1⟩, ⟨pz0, pz1⟩⟩ := hpi
        refine cw_skip ?_
        refine at_then ?_
        rcases sv with _ | ⟨g1, cur1, cap1⟩
        · -- way 8.a
          refine cw_region ?_
          refine steps_q rfl (q_move rfl) ?_  -- outright.go:121
          refine steps_q rfl (q_field fld47_0 rfl) ?_  -- outright.go:121
          refine steps_q rfl (q_load1 8 one2 rfl rfl rfl) ?_  -- outright.go:121
          refine steps_q rfl (q_field fld47_0 rfl) ?_  -- outright.go:121
          refine steps_q rfl (q_load1 3 one2 rfl rfl rfl) ?_  -- outright.go:121
          refine steps_q rfl (q_bin rfl rfl (add64 (by omega) (by omega))) ?_  -- outright.go:121
          refine steps_q rfl (q_field fld47_1 rfl) ?_  -- outright.go:121
          refine steps_q rfl (q_load1 8 one2 rfl rfl rfl) ?_  -- outright.go:121
          refine steps_q rfl (q_field fld47_1 rfl) ?_  -- outright.go:121
          refine steps_q rfl (q_load1 3 one2 rfl rfl rfl) ?_  -- outright.go:121
          refine steps_q rfl (q_bin rfl rfl (add64 (by omega) (by omega))) ?_  -- outright.go:121
          refine steps_q rfl (q_field fld47_2 rfl) ?_  -- outright.go:121
          refine steps_q rfl (q_load1 8 one2 rfl rfl rfl) ?_  -- outright.go:121
          refine steps_q rfl (q_field fld47_2 rfl) ?_  -- outright.go:121
          refine steps_q rfl (q_load1 3 one2 rfl rfl rfl) ?_  -- outright.go:121
          refine steps_q rfl (q_bin rfl rfl (add64 (by omega) (by omega))) ?_  -- outright.go:121
          refine steps_q rfl (q_build (vs := [(0, _), (1, _), (2, _)]) rfl rfl (bldP (addP n p))) ?_  -- outright.go:121
          refine steps_s (s_buildSl 71 rfl rfl rfl (bslP (addP n p)) fun b54 => ?_)  -- outright.go:121
          refine steps_s (s_appendN 70 71 none i (((ps.take i).map (addP n)).map Pt.l) (addP n p).l hil elt22 rfl rfl hsv (subs trivial) rfl rfl rfl rfl (by omega) (by unfold maxLen; omega) fun g1 cur1 cap1 hk1 => ?_)  -- outright.go:121
          refine steps_q rfl (q_assign rfl) ?_  -- outright.go:121
          refine steps_nil ?_
          refine at_then ?_
          refine cw_region ?_
          refine steps_q rfl (q_move rfl) ?_  -- outright.go:116
          refine steps_q rfl (q_bin rfl rfl (add64 (by omega) (by omega))) ?_  -- outright.go:116
          refine steps_q rfl (q_assign rfl) ?_  -- outright.go:116
          refine steps_nil ?_
          exact at_round (i + 1, some (g1, cur1, cap1)) ⟨by dsimp only; omega, by dsimp only; rw [hti, List.map_append]; exact hk1, fun k q hq hk => by
            dsimp only at hk
            by_cases hki : k = i
            · subst hki; rw [hp] at hq; cases hq; exact ⟨⟨px0, px1⟩, ⟨py0, py1⟩, ⟨pz0, pz1⟩⟩
            · exact hz k q hq (by omega), fun h => by dsimp only at h; omega⟩ (by dsimp only; omega) (subs ⟨rfl, rfl, rfl, by dsimp only; rw [show ((i + 1 : Nat) : Int) = i + 1 by omega]; rfl, trivial⟩) (subs ⟨rfl, rfl, trivial⟩)
        · -- way 8.b
          refine cw_region ?_
          refine steps_q rfl (q_move rfl) ?_  -- outright.go:121
          refine steps_q rfl (q_field fld47_0 rfl) ?_  -- outright.go:121
          refine steps_q rfl (q_load1 8 one2 rfl rfl rfl) ?_  -- outright.go:121
          refine steps_q rfl (q_field fld47_0 rfl) ?_  -- outright.go:121
          refine steps_q rfl (q_load1 3 one2 rfl rfl rfl) ?_  -- outright.go:121
          refine steps_q rfl (q_bin rfl rfl (add64 (by omega) (by omega))) ?_  -- outright.go:121
          refine steps_q rfl (q_field fld47_1 rfl) ?_  -- outright.go:121
          refine steps_q rfl (q_load1 8 one2 rfl rfl rfl) ?_  -- outright.go:121
          refine steps_q rfl (q_field fld47_1 rfl) ?_  -- outright.go:121
          refine steps_q rfl (q_load1 3 one2 rfl rfl rfl) ?_  -- outright.go:121
          refine steps_q rfl (q_bin rfl rfl (add64 (by omega) (by omega))) ?_  -- outright.go:121
          refine steps_q rfl (q_field fld47_2 rfl) ?_  -- outright.go:121
          refine steps_q rfl (q_load1 8 one2 rfl rfl rfl) ?_  -- outright.go:121
          refine steps_q rfl (q_field fld47_2 rfl) ?_  -- outright.go:121
          refine steps_q rfl (q_load1 3 one2 rfl rfl rfl) ?_  -- outright.go:121
          refine steps_q rfl (q_bin rfl rfl (add64 (by omega) (by omega))) ?_  -- outright.go:121
          refine steps_q rfl (q_build (vs := [(0, _), (1, _), (2, _)]) rfl rfl (bldP (addP n p))) ?_  -- outright.go:121
          refine steps_s (s_buildSl 71 rfl rfl rfl (bslP (addP n p)) fun b54 => ?_)  -- outright.go:121
          refine steps_s (s_appendN 70 71 (some (g1, cur1, cap1)) i (((ps.take i).map (addP n)).map Pt.l) (addP n p).l hil elt22 rfl rfl hsv (subs ⟨rfl, trivial⟩) rfl rfl rfl rfl (by omega) (by unfold maxLen; omega) fun g1 cur1 cap1 hk1 => ?_)  -- outright.go:121
          refine steps_q rfl (q_assign rfl) ?_  -- outright.go:121
          refine steps_nil ?_
          refine at_then ?_
          refine cw_region ?_
          refine steps_q rfl (q_move rfl) ?_  -- outright.go:116
          refine steps_q rfl (q_bin rfl rfl (add64 (by omega) (by omega))) ?_  -- outright.go:116
          refine steps_q rfl (q_assign rfl) ?_  -- outright.go:116
          refine steps_nil ?_
          exact at_round (i + 1, some (g1, cur1, cap1)) ⟨by dsimp only; omega, by dsimp only; rw [hti, List.map_append]; exact hk1, fun k q hq hk => by
            dsimp only at hk
            by_cases hki : k = i
            · subst hki; rw [hp] at hq; cases hq; exact ⟨⟨px0, px1⟩, ⟨py0, py1⟩, ⟨pz0, pz1⟩⟩
            · exact hz k q hq (by omega), fun h => by dsimp only at h; omega⟩ (by dsimp only; omega) (subs ⟨rfl, rfl, rfl, by dsimp only; rw [show ((i + 1 : Nat) : Int) = i + 1 by omega]; rfl, trivial⟩) (subs ⟨rfl, rfl, trivial⟩)
  · -- no 1
    have hc : ¬ (i : Int) < ps.length := of_decide_eq_false hc1
    have hie : i = ps.length := by omega
    subst hie
    rw [List.take_of_length_le (Nat.le_refl _)] at hsv
    have hall : small 67108864 ps := fun p hp => by
      obtain ⟨k, hk⟩ := List.mem_iff_getElem?.1 hp
      exact hz k p hk (by have := (List.getElem?_eq_some_iff.1 hk).1; omega)
    refine cw_exit ?_
    refine at_then ?_
    rcases sv with _ | ⟨g1, cur1, cap1⟩
    · -- way 9.a
      refine cw_sr ?_
      refine steps_q rfl (q_move rfl) ?_  -- outright.go:123
      refine steps_q rfl (q_assign rfl) ?_  -- outright.go:123
      refine steps_q rfl (q_assign rfl) ?_  -- outright.go:123
      refine steps_nil ?_
      refine cw_ret ?_
      have hnil : ps = [] := by simpa [SV.ok] using hsv
      exact ret_st rfl (rv_tmp rfl (rv_tmp rfl rv_nil)) (by subst hnil; rfl) (.inl ⟨hall, .inl ⟨hnil, rfl, rfl⟩⟩) fun w' hw => hw.weaken (subs trivial)
    · -- way 9.b
      refine cw_sr ?_
      refine steps_q rfl (q_move rfl) ?_  -- outright.go:123
      refine steps_q rfl (q_assign rfl) ?_  -- outright.go:123
      refine steps_q rfl (q_assign rfl) ?_  -- outright.go:123
      refine steps_nil ?_
      refine cw_ret ?_
      have hnil : ps ≠ [] := fun h => by have := hs0 (by rw [h]; rfl); cases this
      exact ret_st rfl (rv_tmp rfl (rv_tmp rfl rv_nil)) rfl (.inl ⟨hall, .inr ⟨hnil, g1, cur1, cap1, rfl, rfl, hsv⟩⟩) fun w' hw => hw.weaken (subs ⟨rfl, trivial⟩)
end Go.Proofs.YtomdahjakkifbaaGreat

/-
  The law GjkBoth: its walk. (Printed by mkboth.py.)
-/
namespace Go.Proofs.YtomdahjakkifbaaGreat
open Go Go.NP Go.RowKit Go.Proofs
set_option maxRecDepth 100000

theorem told_own {w0 w : World} {M : List Nat} {L : HL} {i g cap n : Nat} {cur : List Value} {ps : List Pt} (hw : St w0 M w L) (hl : Go.NP.look L i = some (g, .cells cur.toArray 47 (0, 0))) (hk : SV.ok 3 (some (g, cur, cap)) (ps.map Pt.l)) (hn : n = ps.length) :
    PtsAt w (.slice (some ⟨g, 0, none⟩) n cap) ps := by
  have h := SlAt.own (q := some (g, cur, cap)) (i := i) (e := 47) hw (subs ⟨hl, trivial⟩) hk
  rw [List.length_map] at h
  subst hn; exact h
theorem told_nil (w : World) : PtsAt w (.slice none 0 0) [] := ⟨_, _, rfl, .inl rfl⟩
theorem moved_bad {ps : List Pt} {v : Value} {n : Pt} (w : World) (h : PtsAt w v ps) (hlen : ps.length ≤ 1000000) (hn : n.In 33554432) (hb : ¬ small 67108864 ps) :
    Calls Tryz.prog 17 #[v, .agg n.l.toArray] w fun e w' => e = .returned (.tuple #[.slice none 0 0, .bool false]) ∧ Below w.heap.size w w' :=
  (law_moved w h hlen hn).mono fun _ _ ⟨v, Ln, h1, h2, h3⟩ => by
    rcases h2 with ⟨h, _⟩ | ⟨_, h, _⟩
    · exact absurd h hb
    · subst h; exact ⟨h1, h3.below⟩
theorem moved_nil {ps : List Pt} {v : Value} {n : Pt} (w : World) (h : PtsAt w v ps) (hn : n.In 33554432) (hz : ps = []) :
    Calls Tryz.prog 17 #[v, .agg n.l.toArray] w fun e w' => e = .returned (.tuple #[.slice none 0 0, .bool true]) ∧ Below w.heap.size w w' :=
  (law_moved w h (by simp [hz]) hn).mono fun _ _ ⟨v, Ln, h1, h2, h3⟩ => by
    rcases h2 with ⟨_, ⟨_, h, _⟩ | ⟨h, _⟩⟩ | ⟨h, _⟩
    · subst h; exact ⟨h1, h3.below⟩
    · exact absurd hz h
    · subst hz; exact absurd (fun p hp => by cases hp) h
/-- What moved hands back of a list that is not empty. -/
def MVi (i : Nat) (n : Pt) (ps : List Pt) (v : Value) (Ln : HL) : Prop := ∃ g cur cap, v = .tuple #[.slice (some ⟨g, 0, none⟩) ps.length cap, .bool true] ∧ Ln = [(i, (g, .cells cur.toArray 47 (0, 0)))] ∧ SV.ok 3 (some (g, cur, cap)) ((ps.map (addP n)).map Pt.l)
theorem moved_cons (i : Nat) {ps : List Pt} {v : Value} {n : Pt} (w : World) (h : PtsAt w v ps) (hlen : ps.length ≤ 1000000) (hn : n.In 33554432) (hs : small 67108864 ps) (hz : ps ≠ []) :
    Calls Tryz.prog 17 #[v, .agg n.l.toArray] w fun e w' => ∃ v Ln, e = .returned v ∧ MVi i n ps v Ln ∧ St w [] w' Ln :=
  (law_moved w h hlen hn).mono fun _ _ ⟨v, Ln, h1, h2, h3⟩ => by
    rcases h2 with ⟨_, ⟨h, _⟩ | ⟨_, g, cur, cap, k1, k2, k3⟩⟩ | ⟨h, _⟩
    · exact absurd h hz
    · subst k1 k2
      exact ⟨_, _, h1, ⟨g, cur, cap, rfl, rfl, k3⟩, h3.only (j := 70) rfl⟩
    · exact absurd hs h
theorem apart_two {a b : List Pt} {u v : Value} (w : World) (hu : PtsAt w u a) (hv : PtsAt w v b) (hla : a.length ≤ 1000) (hlb : b.length ≤ 1000) (he : errL a b = 2) :
    Calls Tryz.prog 10 #[u, v] w fun e w' => e = .returned (.tuple #[.agg (Nr.l nrZ).toArray, .int .i64 2]) ∧ Below w.heap.size w w' := by
  have := gjk_Apart_bad w hu hv (by omega) (by omega) (by rw [he]; decide)
  rwa [he] at this
theorem apart_moved {a b : List Pt} {n : Pt} {u v : Value} (w : World) (hu : PtsAt w u (a.map (addP n))) (hv : PtsAt w v (b.map (addP n))) (hla : a.length ≤ 1000) (hlb : b.length ≤ 1000) (he : errL (a.map (addP n)) (b.map (addP n)) = 0) :
    Calls Tryz.prog 10 #[u, v] w fun e w' => ∃ v Ln, e = .returned v ∧ GN (dif a b) v Ln ∧ St w [] w' Ln := by
  have := gjk_Apart_ok w hu hv (by simp; omega) (by simp; omega) he
  rwa [dif_moved] at this
theorem nrx (m : Nr) : Part m.l 0 8 (Wl m.n.x) := ⟨rfl, rfl⟩
theorem nry (m : Nr) : Part m.l 8 8 (Wl m.n.y) := ⟨rfl, rfl⟩
theorem nrz (m : Nr) : Part m.l 16 8 (Wl m.n.z) := ⟨rfl, rfl⟩
theorem fits_neg {n : Int} (h : -Mid ≤ n ∧ n ≤ Mid) : Fits (-n) := fits_big (bd_big (k := Mid) ⟨by omega, by omega⟩ (by decide))
theorem fits_mid {n : Int} (h : -Mid ≤ n ∧ n ≤ Mid) : Fits n := fits_big (bd_big (k := Mid) h (by decide))

set_option maxHeartbeats 4000000 in
theorem both_a {a b : List Pt} {u v : Value} {by' : Pt} (w : World) (hu : PtsAt w u a) (hv : PtsAt w v b) (hla : a.length ≤ 9223372036854775807) (hlb : b.length ≤ 9223372036854775807) (h : ¬ a.length ≤ 60) :
    Calls Tryz.prog 5 #[u, v, .agg by'.l.toArray] w fun e w' => e = .returned (.bool true) ∧ Below w.heap.size w w' := by
  have _ := hla
  have _ := hlb
  have hu0 := hu
  have hv0 := hv
  obtain ⟨x, c, rfl, hs⟩ := hu
  obtain ⟨y, c', rfl, hs'⟩ := hv
  rw [List.length_map] at hu0 ⊢
  rw [List.length_map] at hv0 ⊢
  refine calls_of Tryz.func5 rfl Tryz.ntmps5 rfl (St.start w) (args := [.slice x a.length c, .slice y b.length c', .agg by'.l.toArray]) ?_
  refine cw_sr ?_
  refine steps_s (s_boxA 5 rfl rfl fun b5 => ?_)  -- outright.go:78
  refine steps_q rfl (q_assign rfl) ?_  -- outright.go:78
  refine steps_nil ?_
  refine cw_seq ?_
  refine cw_sr ?_
  refine steps_q rfl (q_move rfl) ?_  -- outright.go:79
  refine steps_q rfl (q_lenSl Tryz.underlying22 rfl) ?_  -- outright.go:79
  refine steps_q rfl (q_bin rfl rfl (gtr_t (by omega))) ?_  -- outright.go:79
  refine steps_q rfl (q_move rfl) ?_  -- outright.go:79
  refine steps_gn rfl rfl rfl rfl ?_  -- outright.go:79
  refine steps_gn rfl rfl rfl rfl ?_  -- outright.go:79
  refine steps_gn rfl rfl rfl rfl ?_  -- outright.go:79
  refine steps_q rfl (q_pick_t rfl rfl) ?_  -- outright.go:79
  refine steps_q rfl (q_move rfl) ?_  -- outright.go:79
  refine steps_gn rfl rfl rfl rfl ?_  -- outright.go:79
  refine steps_gn rfl rfl rfl rfl ?_  -- outright.go:79
  refine steps_gn rfl rfl rfl rfl ?_  -- outright.go:79
  refine steps_gn rfl rfl rfl rfl ?_  -- outright.go:79
  refine steps_gn rfl rfl rfl rfl ?_  -- outright.go:79
  refine steps_gn rfl rfl rfl rfl ?_  -- outright.go:79
  refine steps_q rfl (q_pick_t rfl rfl) ?_  -- outright.go:79
  refine steps_q rfl (q_move rfl) ?_  -- outright.go:79
  refine steps_gn rfl rfl rfl rfl ?_  -- outright.go:79
  refine steps_gn rfl rfl rfl rfl ?_  -- outright.go:79
  refine steps_gn rfl rfl rfl rfl ?_  -- outright.go:79
  refine steps_q rfl (q_pick_t rfl rfl) ?_  -- outright.go:79
  refine steps_nil ?_
  refine cw_cond _ rfl (fun hc1 => ?_) (fun hc1 => ?_)
  · -- yes 1
    refine cw_sr ?_
    refine steps_q rfl (q_pure ent6 rfl law_awake) ?_  -- outright.go:80
    refine steps_q rfl (q_assign rfl) ?_  -- outright.go:80
    refine steps_nil ?_
    refine cw_ret ?_
    exact ret_pure rfl (rv_tmp rfl rv_nil) rfl
  · cases hc1
set_option maxHeartbeats 4000000 in
theorem both_b {a b : List Pt} {u v : Value} {by' : Pt} (w : World) (hu : PtsAt w u a) (hv : PtsAt w v b) (hla : a.length ≤ 9223372036854775807) (hlb : b.length ≤ 9223372036854775807) (ha : a.length ≤ 60) (h : ¬ b.length ≤ 60) :
    Calls Tryz.prog 5 #[u, v, .agg by'.l.toArray] w fun e w' => e = .returned (.bool true) ∧ Below w.heap.size w w' := by
  have _ := hla
  have _ := hlb
  have hu0 := hu
  have hv0 := hv
  obtain ⟨x, c, rfl, hs⟩ := hu
  obtain ⟨y, c', rfl, hs'⟩ := hv
  rw [List.length_map] at hu0 ⊢
  rw [List.length_map] at hv0 ⊢
  refine calls_of Tryz.func5 rfl Tryz.ntmps5 rfl (St.start w) (args := [.slice x a.length c, .slice y b.length c', .agg by'.l.toArray]) ?_
  refine cw_sr ?_
  refine steps_s (s_boxA 5 rfl rfl fun b5 => ?_)  -- outright.go:78
  refine steps_q rfl (q_assign rfl) ?_  -- outright.go:78
  refine steps_nil ?_
  refine cw_seq ?_
  refine cw_sr ?_
  refine steps_q rfl (q_move rfl) ?_  -- outright.go:79
  refine steps_q rfl (q_lenSl Tryz.underlying22 rfl) ?_  -- outright.go:79
  refine steps_q rfl (q_bin rfl rfl (gtr_f (by omega))) ?_  -- outright.go:79
  refine steps_q rfl (q_move rfl) ?_  -- outright.go:79
  refine steps_gq rfl rfl rfl (q_move rfl) ?_  -- outright.go:79
  refine steps_gq rfl rfl rfl (q_lenSl Tryz.underlying22 rfl) ?_  -- outright.go:79
  refine steps_gq rfl rfl rfl (q_bin rfl rfl (gtr_t (by omega))) ?_  -- outright.go:79
  refine steps_q rfl (q_pick_f rfl rfl) ?_  -- outright.go:79
  refine steps_q rfl (q_move rfl) ?_  -- outright.go:79
  refine steps_gn rfl rfl rfl rfl ?_  -- outright.go:79
  refine steps_gn rfl rfl rfl rfl ?_  -- outright.go:79
  refine steps_gn rfl rfl rfl rfl ?_  -- outright.go:79
  refine steps_gn rfl rfl rfl rfl ?_  -- outright.go:79
  refine steps_gn rfl rfl rfl rfl ?_  -- outright.go:79
  refine steps_gn rfl rfl rfl rfl ?_  -- outright.go:79
  refine steps_q rfl (q_pick_t rfl rfl) ?_  -- outright.go:79
  refine steps_q rfl (q_move rfl) ?_  -- outright.go:79
  refine steps_gn rfl rfl rfl rfl ?_  -- outright.go:79
  refine steps_gn rfl rfl rfl rfl ?_  -- outright.go:79
  refine steps_gn rfl rfl rfl rfl ?_  -- outright.go:79
  refine steps_q rfl (q_pick_t rfl rfl) ?_  -- outright.go:79
  refine steps_nil ?_
  refine cw_cond _ rfl (fun hc1 => ?_) (fun hc1 => ?_)
  · -- yes 1
    refine cw_sr ?_
    refine steps_q rfl (q_pure ent6 rfl law_awake) ?_  -- outright.go:80
    refine steps_q rfl (q_assign rfl) ?_  -- outright.go:80
    refine steps_nil ?_
    refine cw_ret ?_
    exact ret_pure rfl (rv_tmp rfl rv_nil) rfl
  · cases hc1
set_option maxHeartbeats 4000000 in
theorem both_c {a b : List Pt} {u v : Value} {by' : Pt} (w : World) (hu : PtsAt w u a) (hv : PtsAt w v b) (hla : a.length ≤ 9223372036854775807) (hlb : b.length ≤ 9223372036854775807) (ha : a.length ≤ 60) (hb : b.length ≤ 60) (h : ¬ a.length * b.length ≤ 60) :
    Calls Tryz.prog 5 #[u, v, .agg by'.l.toArray] w fun e w' => e = .returned (.bool true) ∧ Below w.heap.size w w' := by
  have _ := hla
  have _ := hlb
  have hu0 := hu
  have hv0 := hv
  obtain ⟨x, c, rfl, hs⟩ := hu
  obtain ⟨y, c', rfl, hs'⟩ := hv
  rw [List.length_map] at hu0 ⊢
  rw [List.length_map] at hv0 ⊢
  refine calls_of Tryz.func5 rfl Tryz.ntmps5 rfl (St.start w) (args := [.slice x a.length c, .slice y b.length c', .agg by'.l.toArray]) ?_
  have hp1 : a.length * b.length ≤ 60 * 60 := Nat.mul_le_mul ha hb
  have hp2 : ((a.length * b.length : Nat) : Int) = (a.length : Int) * b.length := by push_cast; rfl
  refine cw_sr ?_
  refine steps_s (s_boxA 5 rfl rfl fun b5 => ?_)  -- outright.go:78
  refine steps_q rfl (q_assign rfl) ?_  -- outright.go:78
  refine steps_nil ?_
  refine cw_seq ?_
  refine cw_sr ?_
  refine steps_q rfl (q_move rfl) ?_  -- outright.go:79
  refine steps_q rfl (q_lenSl Tryz.underlying22 rfl) ?_  -- outright.go:79
  refine steps_q rfl (q_bin rfl rfl (gtr_f (by omega))) ?_  -- outright.go:79
  refine steps_q rfl (q_move rfl) ?_  -- outright.go:79
  refine steps_gq rfl rfl rfl (q_move rfl) ?_  -- outright.go:79
  refine steps_gq rfl rfl rfl (q_lenSl Tryz.underlying22 rfl) ?_  -- outright.go:79
  refine steps_gq rfl rfl rfl (q_bin rfl rfl (gtr_f (by omega))) ?_  -- outright.go:79
  refine steps_q rfl (q_pick_f rfl rfl) ?_  -- outright.go:79
  refine steps_q rfl (q_move rfl) ?_  -- outright.go:79
  refine steps_gq rfl rfl rfl (q_move rfl) ?_  -- outright.go:79
  refine steps_gq rfl rfl rfl (q_lenSl Tryz.underlying22 rfl) ?_  -- outright.go:79
  refine steps_gq rfl rfl rfl (q_move rfl) ?_  -- outright.go:79
  refine steps_gq rfl rfl rfl (q_lenSl Tryz.underlying22 rfl) ?_  -- outright.go:79
  refine steps_gq rfl rfl rfl (q_bin rfl rfl (mul64 (by omega) (by omega))) ?_  -- outright.go:79
  refine steps_gq rfl rfl rfl (q_bin rfl rfl (gtr_t (by omega))) ?_  -- outright.go:79
  refine steps_q rfl (q_pick_f rfl rfl) ?_  -- outright.go:79
  refine steps_q rfl (q_move rfl) ?_  -- outright.go:79
  refine steps_gn rfl rfl rfl rfl ?_  -- outright.go:79
  refine steps_gn rfl rfl rfl rfl ?_  -- outright.go:79
  refine steps_gn rfl rfl rfl rfl ?_  -- outright.go:79
  refine steps_q rfl (q_pick_t rfl rfl) ?_  -- outright.go:79
  refine steps_nil ?_
  refine cw_cond _ rfl (fun hc1 => ?_) (fun hc1 => ?_)
  · -- yes 1
    refine cw_sr ?_
    refine steps_q rfl (q_pure ent6 rfl law_awake) ?_  -- outright.go:80
    refine steps_q rfl (q_assign rfl) ?_  -- outright.go:80
    refine steps_nil ?_
    refine cw_ret ?_
    exact ret_pure rfl (rv_tmp rfl rv_nil) rfl
  · cases hc1
set_option maxHeartbeats 4000000 in
theorem both_d {a b : List Pt} {u v : Value} {by' : Pt} (w : World) (hu : PtsAt w u a) (hv : PtsAt w v b) (hla : a.length ≤ 9223372036854775807) (hlb : b.length ≤ 9223372036854775807) (ha : a.length ≤ 60) (hb : b.length ≤ 60) (hab : a.length * b.length ≤ 60) (h : ¬ by'.In 268435456) :
    Calls Tryz.prog 5 #[u, v, .agg by'.l.toArray] w fun e w' => e = .returned (.bool true) ∧ Below w.heap.size w w' := by
  have _ := hla
  have _ := hlb
  have hu0 := hu
  have hv0 := hv
  obtain ⟨x, c, rfl, hs⟩ := hu
  obtain ⟨y, c', rfl, hs'⟩ := hv
  rw [List.length_map] at hu0 ⊢
  rw [List.length_map] at hv0 ⊢
  refine calls_of Tryz.func5 rfl Tryz.ntmps5 rfl (St.start w) (args := [.slice x a.length c, .slice y b.length c', .agg by'.l.toArray]) ?_
  have hp1 : a.length * b.length ≤ 60 * 60 := Nat.mul_le_mul ha hb
  have hp2 : ((a.length * b.length : Nat) : Int) = (a.length : Int) * b.length := by push_cast; rfl
  refine cw_sr ?_
  refine steps_s (s_boxA 5 rfl rfl fun b5 => ?_)  -- outright.go:78
  refine steps_q rfl (q_assign rfl) ?_  -- outright.go:78
  refine steps_nil ?_
  refine cw_seq ?_
  refine cw_sr ?_
  refine steps_q rfl (q_move rfl) ?_  -- outright.go:79
  refine steps_q rfl (q_lenSl Tryz.underlying22 rfl) ?_  -- outright.go:79
  refine steps_q rfl (q_bin rfl rfl (gtr_f (by omega))) ?_  -- outright.go:79
  refine steps_q rfl (q_move rfl) ?_  -- outright.go:79
  refine steps_gq rfl rfl rfl (q_move rfl) ?_  -- outright.go:79
  refine steps_gq rfl rfl rfl (q_lenSl Tryz.underlying22 rfl) ?_  -- outright.go:79
  refine steps_gq rfl rfl rfl (q_bin rfl rfl (gtr_f (by omega))) ?_  -- outright.go:79
  refine steps_q rfl (q_pick_f rfl rfl) ?_  -- outright.go:79
  refine steps_q rfl (q_move rfl) ?_  -- outright.go:79
  refine steps_gq rfl rfl rfl (q_move rfl) ?_  -- outright.go:79
  refine steps_gq rfl rfl rfl (q_lenSl Tryz.underlying22 rfl) ?_  -- outright.go:79
  refine steps_gq rfl rfl rfl (q_move rfl) ?_  -- outright.go:79
  refine steps_gq rfl rfl rfl (q_lenSl Tryz.underlying22 rfl) ?_  -- outright.go:79
  refine steps_gq rfl rfl rfl (q_bin rfl rfl (mul64 (by omega) (by omega))) ?_  -- outright.go:79
  refine steps_gq rfl rfl rfl (q_bin rfl rfl (gtr_f (by omega))) ?_  -- outright.go:79
  refine steps_q rfl (q_pick_f rfl rfl) ?_  -- outright.go:79
  refine steps_q rfl (q_move rfl) ?_  -- outright.go:79
  refine steps_gq rfl rfl rfl (q_loadW 5 agg47 rfl rfl rfl) ?_  -- outright.go:79
  refine steps_gq rfl rfl rfl (q_pure ent16 rfl (grid_Check by')) ?_  -- outright.go:79
  refine steps_gq rfl rfl rfl (q_bin rfl rfl (neq_7 (errP_out h))) ?_  -- outright.go:79
  refine steps_q rfl (q_pick_f rfl rfl) ?_  -- outright.go:79
  refine steps_nil ?_
  refine cw_cond _ rfl (fun hc1 => ?_) (fun hc1 => ?_)
  · -- yes 1
    refine cw_sr ?_
    refine steps_q rfl (q_pure ent6 rfl law_awake) ?_  -- outright.go:80
    refine steps_q rfl (q_assign rfl) ?_  -- outright.go:80
    refine steps_nil ?_
    refine cw_ret ?_
    exact ret_pure rfl (rv_tmp rfl rv_nil) rfl
  · cases hc1
set_option maxHeartbeats 4000000 in
theorem both_bad_bad {a b : List Pt} {u v : Value} {by' : Pt} (w : World) (hu : PtsAt w u a) (hv : PtsAt w v b) (hla : a.length ≤ 9223372036854775807) (hlb : b.length ≤ 9223372036854775807) (ha : a.length ≤ 60) (hb : b.length ≤ 60) (hab : a.length * b.length ≤ 60) (hby : by'.In 268435456) (hA : ¬ small 67108864 a) (hB : ¬ small 67108864 b) :
    Calls Tryz.prog 5 #[u, v, .agg by'.l.toArray] w fun e w' => e = .returned (.bool true) ∧ Below w.heap.size w w' := by
  have _ := hla
  have _ := hlb
  have hu0 := hu
  have hv0 := hv
  obtain ⟨x, c, rfl, hs⟩ := hu
  obtain ⟨y, c', rfl, hs'⟩ := hv
  rw [List.length_map] at hu0 ⊢
  rw [List.length_map] at hv0 ⊢
  refine calls_of Tryz.func5 rfl Tryz.ntmps5 rfl (St.start w) (args := [.slice x a.length c, .slice y b.length c', .agg by'.l.toArray]) ?_
  have hp1 : a.length * b.length ≤ 60 * 60 := Nat.mul_le_mul ha hb
  have hp2 : ((a.length * b.length : Nat) : Int) = (a.length : Int) * b.length := by push_cast; rfl
  obtain ⟨⟨x0, x1⟩, ⟨y0, y1⟩, ⟨z0, z1⟩⟩ := hby
  obtain ⟨n, hn⟩ : ∃ n : Pt, n = ⟨by'.x.tdiv 8, by'.y.tdiv 8, by'.z.tdiv 8⟩ := ⟨_, rfl⟩
  have hnin : n.In 33554432 := by rw [hn]; exact ⟨tdiv8 x0 x1, tdiv8 y0 y1, tdiv8 z0 z1⟩
  refine cw_sr ?_
  refine steps_s (s_boxA 5 rfl rfl fun b5 => ?_)  -- outright.go:78
  refine steps_q rfl (q_assign rfl) ?_  -- outright.go:78
  refine steps_nil ?_
  refine cw_seq ?_
  refine cw_sr ?_
  refine steps_q rfl (q_move rfl) ?_  -- outright.go:79
  refine steps_q rfl (q_lenSl Tryz.underlying22 rfl) ?_  -- outright.go:79
  refine steps_q rfl (q_bin rfl rfl (gtr_f (by omega))) ?_  -- outright.go:79
  refine steps_q rfl (q_move rfl) ?_  -- outright.go:79
  refine steps_gq rfl rfl rfl (q_move rfl) ?_  -- outright.go:79
  refine steps_gq rfl rfl rfl (q_lenSl Tryz.underlying22 rfl) ?_  -- outright.go:79
  refine steps_gq rfl rfl rfl (q_bin rfl rfl (gtr_f (by omega))) ?_  -- outright.go:79
  refine steps_q rfl (q_pick_f rfl rfl) ?_  -- outright.go:79
  refine steps_q rfl (q_move rfl) ?_  -- outright.go:79
  refine steps_gq rfl rfl rfl (q_move rfl) ?_  -- outright.go:79
  refine steps_gq rfl rfl rfl (q_lenSl Tryz.underlying22 rfl) ?_  -- outright.go:79
  refine steps_gq rfl rfl rfl (q_move rfl) ?_  -- outright.go:79
  refine steps_gq rfl rfl rfl (q_lenSl Tryz.underlying22 rfl) ?_  -- outright.go:79
  refine steps_gq rfl rfl rfl (q_bin rfl rfl (mul64 (by omega) (by omega))) ?_  -- outright.go:79
  refine steps_gq rfl rfl rfl (q_bin rfl rfl (gtr_f (by omega))) ?_  -- outright.go:79
  refine steps_q rfl (q_pick_f rfl rfl) ?_  -- outright.go:79
  refine steps_q rfl (q_move rfl) ?_  -- outright.go:79
  refine steps_gq rfl rfl rfl (q_loadW 5 agg47 rfl rfl rfl) ?_  -- outright.go:79
  refine steps_gq rfl rfl rfl (q_pure ent16 rfl (grid_Check by')) ?_  -- outright.go:79
  refine steps_gq rfl rfl rfl (q_bin rfl rfl (neq_f (errP_in ⟨⟨x0, x1⟩, ⟨y0, y1⟩, ⟨z0, z1⟩⟩))) ?_  -- outright.go:79
  refine steps_q rfl (q_pick_f rfl rfl) ?_  -- outright.go:79
  refine steps_nil ?_
  refine cw_cond _ rfl (fun hc1 => ?_) (fun hc1 => ?_)
  · cases hc1
  · -- no 1
    refine cw_skip ?_
    refine at_then ?_
    refine cw_sr ?_
    refine steps_q rfl (q_field fld47_0 rfl) ?_  -- outright.go:82
    refine steps_q rfl (q_load1 5 one2 rfl rfl rfl) ?_  -- outright.go:82
    refine steps_q rfl (q_bin rfl rfl (quo8 x0 x1)) ?_  -- outright.go:82
    refine steps_q rfl (q_field fld47_1 rfl) ?_  -- outright.go:82
    refine steps_q rfl (q_load1 5 one2 rfl rfl rfl) ?_  -- outright.go:82
    refine steps_q rfl (q_bin rfl rfl (quo8 y0 y1)) ?_  -- outright.go:82
    refine steps_q rfl (q_field fld47_2 rfl) ?_  -- outright.go:82
    refine steps_q rfl (q_load1 5 one2 rfl rfl rfl) ?_  -- outright.go:82
    refine steps_q rfl (q_bin rfl rfl (quo8 z0 z1)) ?_  -- outright.go:82
    refine steps_q rfl (q_build (vs := [(0, _), (1, _), (2, _)]) rfl rfl (bldP ⟨by'.x.tdiv 8, by'.y.tdiv 8, by'.z.tdiv 8⟩)) ?_  -- outright.go:82
    rw [← hn]
    refine steps_s (s_allocA 7 rfl zer47 fun b7 => ?_)  -- outright.go:82
    refine steps_s (s_storeW 7 siz47 rfl rfl rfl rfl rfl rfl ?_)  -- outright.go:82
    refine steps_nil ?_
    refine cw_sr ?_
    refine steps_q rfl (q_move rfl) ?_  -- outright.go:83
    refine steps_q rfl (q_loadW 7 agg47 rfl rfl rfl) ?_  -- outright.go:83
    refine steps_q rfl (q_call ent17 rfl rfl (fun w' hw => by simpa using moved_bad w' (SlAt.st hu0 hw) (by omega) hnin hA)) ?_  -- outright.go:83
    refine steps_q rfl (q_move rfl) ?_  -- outright.go:83
    refine steps_q rfl (q_extract rfl rfl) ?_  -- outright.go:83
    refine steps_q rfl (q_extract rfl rfl) ?_  -- outright.go:83
    refine steps_q rfl (q_assign rfl) ?_  -- outright.go:83
    refine steps_q rfl (q_assign rfl) ?_  -- outright.go:83
    refine steps_nil ?_
    refine cw_sr ?_
    refine steps_q rfl (q_move rfl) ?_  -- outright.go:84
    refine steps_q rfl (q_loadW 7 agg47 rfl rfl rfl) ?_  -- outright.go:84
    refine steps_q rfl (q_call ent17 rfl rfl (fun w' hw => by simpa using moved_bad w' (SlAt.st hv0 hw) (by omega) hnin hB)) ?_  -- outright.go:84
    refine steps_q rfl (q_move rfl) ?_  -- outright.go:84
    refine steps_q rfl (q_extract rfl rfl) ?_  -- outright.go:84
    refine steps_q rfl (q_extract rfl rfl) ?_  -- outright.go:84
    refine steps_q rfl (q_assign rfl) ?_  -- outright.go:84
    refine steps_q rfl (q_assign rfl) ?_  -- outright.go:84
    refine steps_nil ?_
    refine cw_seq ?_
    refine cw_sr ?_
    refine steps_q rfl (q_move rfl) ?_  -- outright.go:85
    refine steps_q rfl (q_not rfl rfl) ?_  -- outright.go:85
    refine steps_q rfl (q_move rfl) ?_  -- outright.go:85
    refine steps_gn rfl rfl rfl rfl ?_  -- outright.go:85
    refine steps_gn rfl rfl rfl rfl ?_  -- outright.go:85
    refine steps_q rfl (q_pick_t rfl rfl) ?_  -- outright.go:85
    refine steps_nil ?_
    refine cw_cond _ rfl (fun hc2 => ?_) (fun hc2 => ?_)
    · -- yes 2
      refine cw_sr ?_
      refine steps_q rfl (q_pure ent6 rfl law_awake) ?_  -- outright.go:86
      refine steps_q rfl (q_assign rfl) ?_  -- outright.go:86
      refine steps_nil ?_
      refine cw_ret ?_
      exact ret_pure rfl (rv_tmp rfl rv_nil) rfl
    · cases hc2
set_option maxHeartbeats 4000000 in
theorem both_bad_nil {a b : List Pt} {u v : Value} {by' : Pt} (w : World) (hu : PtsAt w u a) (hv : PtsAt w v b) (hla : a.length ≤ 9223372036854775807) (hlb : b.length ≤ 9223372036854775807) (ha : a.length ≤ 60) (hb : b.length ≤ 60) (hab : a.length * b.length ≤ 60) (hby : by'.In 268435456) (hA : ¬ small 67108864 a) (hB : small 67108864 b) (hB0 : b = []) :
    Calls Tryz.prog 5 #[u, v, .agg by'.l.toArray] w fun e w' => e = .returned (.bool true) ∧ Below w.heap.size w w' := by
  have _ := hla
  have _ := hlb
  have hu0 := hu
  have hv0 := hv
  obtain ⟨x, c, rfl, hs⟩ := hu
  obtain ⟨y, c', rfl, hs'⟩ := hv
  rw [List.length_map] at hu0 ⊢
  rw [List.length_map] at hv0 ⊢
  refine calls_of Tryz.func5 rfl Tryz.ntmps5 rfl (St.start w) (args := [.slice x a.length c, .slice y b.length c', .agg by'.l.toArray]) ?_
  have hp1 : a.length * b.length ≤ 60 * 60 := Nat.mul_le_mul ha hb
  have hp2 : ((a.length * b.length : Nat) : Int) = (a.length : Int) * b.length := by push_cast; rfl
  obtain ⟨⟨x0, x1⟩, ⟨y0, y1⟩, ⟨z0, z1⟩⟩ := hby
  obtain ⟨n, hn⟩ : ∃ n : Pt, n = ⟨by'.x.tdiv 8, by'.y.tdiv 8, by'.z.tdiv 8⟩ := ⟨_, rfl⟩
  have hnin : n.In 33554432 := by rw [hn]; exact ⟨tdiv8 x0 x1, tdiv8 y0 y1, tdiv8 z0 z1⟩
  have _ := hB
  refine cw_sr ?_
  refine steps_s (s_boxA 5 rfl rfl fun b5 => ?_)  -- outright.go:78
  refine steps_q rfl (q_assign rfl) ?_  -- outright.go:78
  refine steps_nil ?_
  refine cw_seq ?_
  refine cw_sr ?_
  refine steps_q rfl (q_move rfl) ?_  -- outright.go:79
  refine steps_q rfl (q_lenSl Tryz.underlying22 rfl) ?_  -- outright.go:79
  refine steps_q rfl (q_bin rfl rfl (gtr_f (by omega))) ?_  -- outright.go:79
  refine steps_q rfl (q_move rfl) ?_  -- outright.go:79
  refine steps_gq rfl rfl rfl (q_move rfl) ?_  -- outright.go:79
  refine steps_gq rfl rfl rfl (q_lenSl Tryz.underlying22 rfl) ?_  -- outright.go:79
  refine steps_gq rfl rfl rfl (q_bin rfl rfl (gtr_f (by omega))) ?_  -- outright.go:79
  refine steps_q rfl (q_pick_f rfl rfl) ?_  -- outright.go:79
  refine steps_q rfl (q_move rfl) ?_  -- outright.go:79
  refine steps_gq rfl rfl rfl (q_move rfl) ?_  -- outright.go:79
  refine steps_gq rfl rfl rfl (q_lenSl Tryz.underlying22 rfl) ?_  -- outright.go:79
  refine steps_gq rfl rfl rfl (q_move rfl) ?_  -- outright.go:79
  refine steps_gq rfl rfl rfl (q_lenSl Tryz.underlying22 rfl) ?_  -- outright.go:79
  refine steps_gq rfl rfl rfl (q_bin rfl rfl (mul64 (by omega) (by omega))) ?_  -- outright.go:79
  refine steps_gq rfl rfl rfl (q_bin rfl rfl (gtr_f (by omega))) ?_  -- outright.go:79
  refine steps_q rfl (q_pick_f rfl rfl) ?_  -- outright.go:79
  refine steps_q rfl (q_move rfl) ?_  -- outright.go:79
  refine steps_gq rfl rfl rfl (q_loadW 5 agg47 rfl rfl rfl) ?_  -- outright.go:79
  refine steps_gq rfl rfl rfl (q_pure ent16 rfl (grid_Check by')) ?_  -- outright.go:79
  refine steps_gq rfl rfl rfl (q_bin rfl rfl (neq_f (errP_in ⟨⟨x0, x1⟩, ⟨y0, y1⟩, ⟨z0, z1⟩⟩))) ?_  -- outright.go:79
  refine steps_q rfl (q_pick_f rfl rfl) ?_  -- outright.go:79
  refine steps_nil ?_
  refine cw_cond _ rfl (fun hc1 => ?_) (fun hc1 => ?_)
  · cases hc1
  · -- no 1
    refine cw_skip ?_
    refine at_then ?_
    refine cw_sr ?_
    refine steps_q rfl (q_field fld47_0 rfl) ?_  -- outright.go:82
    refine steps_q rfl (q_load1 5 one2 rfl rfl rfl) ?_  -- outright.go:82
    refine steps_q rfl (q_bin rfl rfl (quo8 x0 x1)) ?_  -- outright.go:82
    refine steps_q rfl (q_field fld47_1 rfl) ?_  -- outright.go:82
    refine steps_q rfl (q_load1 5 one2 rfl rfl rfl) ?_  -- outright.go:82
    refine steps_q rfl (q_bin rfl rfl (quo8 y0 y1)) ?_  -- outright.go:82
    refine steps_q rfl (q_field fld47_2 rfl) ?_  -- outright.go:82
    refine steps_q rfl (q_load1 5 one2 rfl rfl rfl) ?_  -- outright.go:82
    refine steps_q rfl (q_bin rfl rfl (quo8 z0 z1)) ?_  -- outright.go:82
    refine steps_q rfl (q_build (vs := [(0, _), (1, _), (2, _)]) rfl rfl (bldP ⟨by'.x.tdiv 8, by'.y.tdiv 8, by'.z.tdiv 8⟩)) ?_  -- outright.go:82
    rw [← hn]
    refine steps_s (s_allocA 7 rfl zer47 fun b7 => ?_)  -- outright.go:82
    refine steps_s (s_storeW 7 siz47 rfl rfl rfl rfl rfl rfl ?_)  -- outright.go:82
    refine steps_nil ?_
    refine cw_sr ?_
    refine steps_q rfl (q_move rfl) ?_  -- outright.go:83
    refine steps_q rfl (q_loadW 7 agg47 rfl rfl rfl) ?_  -- outright.go:83
    refine steps_q rfl (q_call ent17 rfl rfl (fun w' hw => by simpa using moved_bad w' (SlAt.st hu0 hw) (by omega) hnin hA)) ?_  -- outright.go:83
    refine steps_q rfl (q_move rfl) ?_  -- outright.go:83
    refine steps_q rfl (q_extract rfl rfl) ?_  -- outright.go:83
    refine steps_q rfl (q_extract rfl rfl) ?_  -- outright.go:83
    refine steps_q rfl (q_assign rfl) ?_  -- outright.go:83
    refine steps_q rfl (q_assign rfl) ?_  -- outright.go:83
    refine steps_nil ?_
    refine cw_sr ?_
    refine steps_q rfl (q_move rfl) ?_  -- outright.go:84
    refine steps_q rfl (q_loadW 7 agg47 rfl rfl rfl) ?_  -- outright.go:84
    refine steps_q rfl (q_call ent17 rfl rfl (fun w' hw => by simpa using moved_nil w' (SlAt.st hv0 hw) hnin hB0)) ?_  -- outright.go:84
    refine steps_q rfl (q_move rfl) ?_  -- outright.go:84
    refine steps_q rfl (q_extract rfl rfl) ?_  -- outright.go:84
    refine steps_q rfl (q_extract rfl rfl) ?_  -- outright.go:84
    refine steps_q rfl (q_assign rfl) ?_  -- outright.go:84
    refine steps_q rfl (q_assign rfl) ?_  -- outright.go:84
    refine steps_nil ?_
    refine cw_seq ?_
    refine cw_sr ?_
    refine steps_q rfl (q_move rfl) ?_  -- outright.go:85
    refine steps_q rfl (q_not rfl rfl) ?_  -- outright.go:85
    refine steps_q rfl (q_move rfl) ?_  -- outright.go:85
    refine steps_gn rfl rfl rfl rfl ?_  -- outright.go:85
    refine steps_gn rfl rfl rfl rfl ?_  -- outright.go:85
    refine steps_q rfl (q_pick_t rfl rfl) ?_  -- outright.go:85
    refine steps_nil ?_
    refine cw_cond _ rfl (fun hc2 => ?_) (fun hc2 => ?_)
    · -- yes 2
      refine cw_sr ?_
      refine steps_q rfl (q_pure ent6 rfl law_awake) ?_  -- outright.go:86
      refine steps_q rfl (q_assign rfl) ?_  -- outright.go:86
      refine steps_nil ?_
      refine cw_ret ?_
      exact ret_pure rfl (rv_tmp rfl rv_nil) rfl
    · cases hc2
set_option maxHeartbeats 4000000 in
theorem both_bad_cons {a b : List Pt} {u v : Value} {by' : Pt} (w : World) (hu : PtsAt w u a) (hv : PtsAt w v b) (hla : a.length ≤ 9223372036854775807) (hlb : b.length ≤ 9223372036854775807) (ha : a.length ≤ 60) (hb : b.length ≤ 60) (hab : a.length * b.length ≤ 60) (hby : by'.In 268435456) (hA : ¬ small 67108864 a) (hB : small 67108864 b) (hB0 : b ≠ []) :
    Calls Tryz.prog 5 #[u, v, .agg by'.l.toArray] w fun e w' => e = .returned (.bool true) ∧ Below w.heap.size w w' := by
  have _ := hla
  have _ := hlb
  have hu0 := hu
  have hv0 := hv
  obtain ⟨x, c, rfl, hs⟩ := hu
  obtain ⟨y, c', rfl, hs'⟩ := hv
  rw [List.length_map] at hu0 ⊢
  rw [List.length_map] at hv0 ⊢
  refine calls_of Tryz.func5 rfl Tryz.ntmps5 rfl (St.start w) (args := [.slice x a.length c, .slice y b.length c', .agg by'.l.toArray]) ?_
  have hp1 : a.length * b.length ≤ 60 * 60 := Nat.mul_le_mul ha hb
  have hp2 : ((a.length * b.length : Nat) : Int) = (a.length : Int) * b.length := by push_cast; rfl
  obtain ⟨⟨x0, x1⟩, ⟨y0, y1⟩, ⟨z0, z1⟩⟩ := hby
  obtain ⟨n, hn⟩ : ∃ n : Pt, n = ⟨by'.x.tdiv 8, by'.y.tdiv 8, by'.z.tdiv 8⟩ := ⟨_, rfl⟩
  have hnin : n.In 33554432 := by rw [hn]; exact ⟨tdiv8 x0 x1, tdiv8 y0 y1, tdiv8 z0 z1⟩
  have _ := hB
  refine cw_sr ?_
  refine steps_s (s_boxA 5 rfl rfl fun b5 => ?_)  -- outright.go:78
  refine steps_q rfl (q_assign rfl) ?_  -- outright.go:78
  refine steps_nil ?_
  refine cw_seq ?_
  refine cw_sr ?_
  refine steps_q rfl (q_move rfl) ?_  -- outright.go:79
  refine steps_q rfl (q_lenSl Tryz.underlying22 rfl) ?_  -- outright.go:79
  refine steps_q rfl (q_bin rfl rfl (gtr_f (by omega))) ?_  -- outright.go:79
  refine steps_q rfl (q_move rfl) ?_  -- outright.go:79
  refine steps_gq rfl rfl rfl (q_move rfl) ?_  -- outright.go:79
  refine steps_gq rfl rfl rfl (q_lenSl Tryz.underlying22 rfl) ?_  -- outright.go:79
  refine steps_gq rfl rfl rfl (q_bin rfl rfl (gtr_f (by omega))) ?_  -- outright.go:79
  refine steps_q rfl (q_pick_f rfl rfl) ?_  -- outright.go:79
  refine steps_q rfl (q_move rfl) ?_  -- outright.go:79
  refine steps_gq rfl rfl rfl (q_move rfl) ?_  -- outright.go:79
  refine steps_gq rfl rfl rfl (q_lenSl Tryz.underlying22 rfl) ?_  -- outright.go:79
  refine steps_gq rfl rfl rfl (q_move rfl) ?_  -- outright.go:79
  refine steps_gq rfl rfl rfl (q_lenSl Tryz.underlying22 rfl) ?_  -- outright.go:79
  refine steps_gq rfl rfl rfl (q_bin rfl rfl (mul64 (by omega) (by omega))) ?_  -- outright.go:79
  refine steps_gq rfl rfl rfl (q_bin rfl rfl (gtr_f (by omega))) ?_  -- outright.go:79
  refine steps_q rfl (q_pick_f rfl rfl) ?_  -- outright.go:79
  refine steps_q rfl (q_move rfl) ?_  -- outright.go:79
  refine steps_gq rfl rfl rfl (q_loadW 5 agg47 rfl rfl rfl) ?_  -- outright.go:79
  refine steps_gq rfl rfl rfl (q_pure ent16 rfl (grid_Check by')) ?_  -- outright.go:79
  refine steps_gq rfl rfl rfl (q_bin rfl rfl (neq_f (errP_in ⟨⟨x0, x1⟩, ⟨y0, y1⟩, ⟨z0, z1⟩⟩))) ?_  -- outright.go:79
  refine steps_q rfl (q_pick_f rfl rfl) ?_  -- outright.go:79
  refine steps_nil ?_
  refine cw_cond _ rfl (fun hc1 => ?_) (fun hc1 => ?_)
  · cases hc1
  · -- no 1
    refine cw_skip ?_
    refine at_then ?_
    refine cw_sr ?_
    refine steps_q rfl (q_field fld47_0 rfl) ?_  -- outright.go:82
    refine steps_q rfl (q_load1 5 one2 rfl rfl rfl) ?_  -- outright.go:82
    refine steps_q rfl (q_bin rfl rfl (quo8 x0 x1)) ?_  -- outright.go:82
    refine steps_q rfl (q_field fld47_1 rfl) ?_  -- outright.go:82
    refine steps_q rfl (q_load1 5 one2 rfl rfl rfl) ?_  -- outright.go:82
    refine steps_q rfl (q_bin rfl rfl (quo8 y0 y1)) ?_  -- outright.go:82
    refine steps_q rfl (q_field fld47_2 rfl) ?_  -- outright.go:82
    refine steps_q rfl (q_load1 5 one2 rfl rfl rfl) ?_  -- outright.go:82
    refine steps_q rfl (q_bin rfl rfl (quo8 z0 z1)) ?_  -- outright.go:82
    refine steps_q rfl (q_build (vs := [(0, _), (1, _), (2, _)]) rfl rfl (bldP ⟨by'.x.tdiv 8, by'.y.tdiv 8, by'.z.tdiv 8⟩)) ?_  -- outright.go:82
    rw [← hn]
    refine steps_s (s_allocA 7 rfl zer47 fun b7 => ?_)  -- outright.go:82
    refine steps_s (s_storeW 7 siz47 rfl rfl rfl rfl rfl rfl ?_)  -- outright.go:82
    refine steps_nil ?_
    refine cw_sr ?_
    refine steps_q rfl (q_move rfl) ?_  -- outright.go:83
    refine steps_q rfl (q_loadW 7 agg47 rfl rfl rfl) ?_  -- outright.go:83
    refine steps_q rfl (q_call ent17 rfl rfl (fun w' hw => by simpa using moved_bad w' (SlAt.st hu0 hw) (by omega) hnin hA)) ?_  -- outright.go:83
    refine steps_q rfl (q_move rfl) ?_  -- outright.go:83
    refine steps_q rfl (q_extract rfl rfl) ?_  -- outright.go:83
    refine steps_q rfl (q_extract rfl rfl) ?_  -- outright.go:83
    refine steps_q rfl (q_assign rfl) ?_  -- outright.go:83
    refine steps_q rfl (q_assign rfl) ?_  -- outright.go:83
    refine steps_nil ?_
    refine cw_sr ?_
    refine steps_q rfl (q_move rfl) ?_  -- outright.go:84
    refine steps_q rfl (q_loadW 7 agg47 rfl rfl rfl) ?_  -- outright.go:84
    refine steps_s (s_callSt ent17 rfl rfl rfl (R := MVi 71 n b) (fun w' hw => by simpa using moved_cons 71 w' (SlAt.st hv0 hw) (by omega) hnin hB hB0) fun v Ln hZ => ?_)  -- outright.go:84
    obtain ⟨g71, cur71, cap71, rfl, rfl, hsv71⟩ := hZ
    refine steps_q rfl (q_move rfl) ?_  -- outright.go:84
    refine steps_q rfl (q_extract rfl rfl) ?_  -- outright.go:84
    refine steps_q rfl (q_extract rfl rfl) ?_  -- outright.go:84
    refine steps_q rfl (q_assign rfl) ?_  -- outright.go:84
    refine steps_q rfl (q_assign rfl) ?_  -- outright.go:84
    refine steps_nil ?_
    refine cw_seq ?_
    refine cw_sr ?_
    refine steps_q rfl (q_move rfl) ?_  -- outright.go:85
    refine steps_q rfl (q_not rfl rfl) ?_  -- outright.go:85
    refine steps_q rfl (q_move rfl) ?_  -- outright.go:85
    refine steps_gn rfl rfl rfl rfl ?_  -- outright.go:85
    refine steps_gn rfl rfl rfl rfl ?_  -- outright.go:85
    refine steps_q rfl (q_pick_t rfl rfl) ?_  -- outright.go:85
    refine steps_nil ?_
    refine cw_cond _ rfl (fun hc2 => ?_) (fun hc2 => ?_)
    · -- yes 2
      refine cw_sr ?_
      refine steps_q rfl (q_pure ent6 rfl law_awake) ?_  -- outright.go:86
      refine steps_q rfl (q_assign rfl) ?_  -- outright.go:86
      refine steps_nil ?_
      refine cw_ret ?_
      exact ret_pure rfl (rv_tmp rfl rv_nil) rfl
    · cases hc2
set_option maxHeartbeats 4000000 in
theorem both_nil_bad {a b : List Pt} {u v : Value} {by' : Pt} (w : World) (hu : PtsAt w u a) (hv : PtsAt w v b) (hla : a.length ≤ 9223372036854775807) (hlb : b.length ≤ 9223372036854775807) (ha : a.length ≤ 60) (hb : b.length ≤ 60) (hab : a.length * b.length ≤ 60) (hby : by'.In 268435456) (hA : small 67108864 a) (hA0 : a = []) (hB : ¬ small 67108864 b) :
    Calls Tryz.prog 5 #[u, v, .agg by'.l.toArray] w fun e w' => e = .returned (.bool true) ∧ Below w.heap.size w w' := by
  have _ := hla
  have _ := hlb
  have hu0 := hu
  have hv0 := hv
  obtain ⟨x, c, rfl, hs⟩ := hu
  obtain ⟨y, c', rfl, hs'⟩ := hv
  rw [List.length_map] at hu0 ⊢
  rw [List.length_map] at hv0 ⊢
  refine calls_of Tryz.func5 rfl Tryz.ntmps5 rfl (St.start w) (args := [.slice x a.length c, .slice y b.length c', .agg by'.l.toArray]) ?_
  have hp1 : a.length * b.length ≤ 60 * 60 := Nat.mul_le_mul ha hb
  have hp2 : ((a.length * b.length : Nat) : Int) = (a.length : Int) * b.length := by push_cast; rfl
  obtain ⟨⟨x0, x1⟩, ⟨y0, y1⟩, ⟨z0, z1⟩⟩ := hby
  obtain ⟨n, hn⟩ : ∃ n : Pt, n = ⟨by'.x.tdiv 8, by'.y.tdiv 8, by'.z.tdiv 8⟩ := ⟨_, rfl⟩
  have hnin : n.In 33554432 := by rw [hn]; exact ⟨tdiv8 x0 x1, tdiv8 y0 y1, tdiv8 z0 z1⟩
  have _ := hA
  refine cw_sr ?_
  refine steps_s (s_boxA 5 rfl rfl fun b5 => ?_)  -- outright.go:78
  refine steps_q rfl (q_assign rfl) ?_  -- outright.go:78
  refine steps_nil ?_
  refine cw_seq ?_
  refine cw_sr ?_
  refine steps_q rfl (q_move rfl) ?_  -- outright.go:79
  refine steps_q rfl (q_lenSl Tryz.underlying22 rfl) ?_  -- outright.go:79
  refine steps_q rfl (q_bin rfl rfl (gtr_f (by omega))) ?_  -- outright.go:79
  refine steps_q rfl (q_move rfl) ?_  -- outright.go:79
  refine steps_gq rfl rfl rfl (q_move rfl) ?_  -- outright.go:79
  refine steps_gq rfl rfl rfl (q_lenSl Tryz.underlying22 rfl) ?_  -- outright.go:79
  refine steps_gq rfl rfl rfl (q_bin rfl rfl (gtr_f (by omega))) ?_  -- outright.go:79
  refine steps_q rfl (q_pick_f rfl rfl) ?_  -- outright.go:79
  refine steps_q rfl (q_move rfl) ?_  -- outright.go:79
  refine steps_gq rfl rfl rfl (q_move rfl) ?_  -- outright.go:79
  refine steps_gq rfl rfl rfl (q_lenSl Tryz.underlying22 rfl) ?_  -- outright.go:79
  refine steps_gq rfl rfl rfl (q_move rfl) ?_  -- outright.go:79
  refine steps_gq rfl rfl rfl (q_lenSl Tryz.underlying22 rfl) ?_  -- outright.go:79
  refine steps_gq rfl rfl rfl (q_bin rfl rfl (mul64 (by omega) (by omega))) ?_  -- outright.go:79
  refine steps_gq rfl rfl rfl (q_bin rfl rfl (gtr_f (by omega))) ?_  -- outright.go:79
  refine steps_q rfl (q_pick_f rfl rfl) ?_  -- outright.go:79
  refine steps_q rfl (q_move rfl) ?_  -- outright.go:79
  refine steps_gq rfl rfl rfl (q_loadW 5 agg47 rfl rfl rfl) ?_  -- outright.go:79
  refine steps_gq rfl rfl rfl (q_pure ent16 rfl (grid_Check by')) ?_  -- outright.go:79
  refine steps_gq rfl rfl rfl (q_bin rfl rfl (neq_f (errP_in ⟨⟨x0, x1⟩, ⟨y0, y1⟩, ⟨z0, z1⟩⟩))) ?_  -- outright.go:79
  refine steps_q rfl (q_pick_f rfl rfl) ?_  -- outright.go:79
  refine steps_nil ?_
  refine cw_cond _ rfl (fun hc1 => ?_) (fun hc1 => ?_)
  · cases hc1
  · -- no 1
    refine cw_skip ?_
    refine at_then ?_
    refine cw_sr ?_
    refine steps_q rfl (q_field fld47_0 rfl) ?_  -- outright.go:82
    refine steps_q rfl (q_load1 5 one2 rfl rfl rfl) ?_  -- outright.go:82
    refine steps_q rfl (q_bin rfl rfl (quo8 x0 x1)) ?_  -- outright.go:82
    refine steps_q rfl (q_field fld47_1 rfl) ?_  -- outright.go:82
    refine steps_q rfl (q_load1 5 one2 rfl rfl rfl) ?_  -- outright.go:82
    refine steps_q rfl (q_bin rfl rfl (quo8 y0 y1)) ?_  -- outright.go:82
    refine steps_q rfl (q_field fld47_2 rfl) ?_  -- outright.go:82
    refine steps_q rfl (q_load1 5 one2 rfl rfl rfl) ?_  -- outright.go:82
    refine steps_q rfl (q_bin rfl rfl (quo8 z0 z1)) ?_  -- outright.go:82
    refine steps_q rfl (q_build (vs := [(0, _), (1, _), (2, _)]) rfl rfl (bldP ⟨by'.x.tdiv 8, by'.y.tdiv 8, by'.z.tdiv 8⟩)) ?_  -- outright.go:82
    rw [← hn]
    refine steps_s (s_allocA 7 rfl zer47 fun b7 => ?_)  -- outright.go:82
    refine steps_s (s_storeW 7 siz47 rfl rfl rfl rfl rfl rfl ?_)  -- outright.go:82
    refine steps_nil ?_
    refine cw_sr ?_
    refine steps_q rfl (q_move rfl) ?_  -- outright.go:83
    refine steps_q rfl (q_loadW 7 agg47 rfl rfl rfl) ?_  -- outright.go:83
    refine steps_q rfl (q_call ent17 rfl rfl (fun w' hw => by simpa using moved_nil w' (SlAt.st hu0 hw) hnin hA0)) ?_  -- outright.go:83
    refine steps_q rfl (q_move rfl) ?_  -- outright.go:83
    refine steps_q rfl (q_extract rfl rfl) ?_  -- outright.go:83
    refine steps_q rfl (q_extract rfl rfl) ?_  -- outright.go:83
    refine steps_q rfl (q_assign rfl) ?_  -- outright.go:83
    refine steps_q rfl (q_assign rfl) ?_  -- outright.go:83
    refine steps_nil ?_
    refine cw_sr ?_
    refine steps_q rfl (q_move rfl) ?_  -- outright.go:84
    refine steps_q rfl (q_loadW 7 agg47 rfl rfl rfl) ?_  -- outright.go:84
    refine steps_q rfl (q_call ent17 rfl rfl (fun w' hw => by simpa using moved_bad w' (SlAt.st hv0 hw) (by omega) hnin hB)) ?_  -- outright.go:84
    refine steps_q rfl (q_move rfl) ?_  -- outright.go:84
    refine steps_q rfl (q_extract rfl rfl) ?_  -- outright.go:84
    refine steps_q rfl (q_extract rfl rfl) ?_  -- outright.go:84
    refine steps_q rfl (q_assign rfl) ?_  -- outright.go:84
    refine steps_q rfl (q_assign rfl) ?_  -- outright.go:84
    refine steps_nil ?_
    refine cw_seq ?_
    refine cw_sr ?_
    refine steps_q rfl (q_move rfl) ?_  -- outright.go:85
    refine steps_q rfl (q_not rfl rfl) ?_  -- outright.go:85
    refine steps_q rfl (q_move rfl) ?_  -- outright.go:85
    refine steps_gq rfl rfl rfl (q_move rfl) ?_  -- outright.go:85
    refine steps_gq rfl rfl rfl (q_not rfl rfl) ?_  -- outright.go:85
    refine steps_q rfl (q_pick_f rfl rfl) ?_  -- outright.go:85
    refine steps_nil ?_
    refine cw_cond _ rfl (fun hc2 => ?_) (fun hc2 => ?_)
    · -- yes 2
      refine cw_sr ?_
      refine steps_q rfl (q_pure ent6 rfl law_awake) ?_  -- outright.go:86
      refine steps_q rfl (q_assign rfl) ?_  -- outright.go:86
      refine steps_nil ?_
      refine cw_ret ?_
      exact ret_pure rfl (rv_tmp rfl rv_nil) rfl
    · cases hc2
set_option maxHeartbeats 4000000 in
theorem both_nil_nil {a b : List Pt} {u v : Value} {by' : Pt} (w : World) (hu : PtsAt w u a) (hv : PtsAt w v b) (hla : a.length ≤ 9223372036854775807) (hlb : b.length ≤ 9223372036854775807) (ha : a.length ≤ 60) (hb : b.length ≤ 60) (hab : a.length * b.length ≤ 60) (hby : by'.In 268435456) (hA : small 67108864 a) (hA0 : a = []) (hB : small 67108864 b) (hB0 : b = []) :
    Calls Tryz.prog 5 #[u, v, .agg by'.l.toArray] w fun e w' => e = .returned (.bool true) ∧ Below w.heap.size w w' := by
  have _ := hla
  have _ := hlb
  have hu0 := hu
  have hv0 := hv
  obtain ⟨x, c, rfl, hs⟩ := hu
  obtain ⟨y, c', rfl, hs'⟩ := hv
  rw [List.length_map] at hu0 ⊢
  rw [List.length_map] at hv0 ⊢
  refine calls_of Tryz.func5 rfl Tryz.ntmps5 rfl (St.start w) (args := [.slice x a.length c, .slice y b.length c', .agg by'.l.toArray]) ?_
  have hp1 : a.length * b.length ≤ 60 * 60 := Nat.mul_le_mul ha hb
  have hp2 : ((a.length * b.length : Nat) : Int) = (a.length : Int) * b.length := by push_cast; rfl
  obtain ⟨⟨x0, x1⟩, ⟨y0, y1⟩, ⟨z0, z1⟩⟩ := hby
  obtain ⟨n, hn⟩ : ∃ n : Pt, n = ⟨by'.x.tdiv 8, by'.y.tdiv 8, by'.z.tdiv 8⟩ := ⟨_, rfl⟩
  have hnin : n.In 33554432 := by rw [hn]; exact ⟨tdiv8 x0 x1, tdiv8 y0 y1, tdiv8 z0 z1⟩
  have _ := hA
  have _ := hB
  have hA7 := hA.moved hnin
  have hB7 := hB.moved hnin
  have eAB := errL_small (hA.mono (by decide)).ok (hB.mono (by decide)).ok ha hb hab (dif_ok (hA.mono (by decide)) (hB.mono (by decide)))
  have eBA := errL_small (hB.mono (by decide)).ok (hA.mono (by decide)).ok hb ha (by rw [Nat.mul_comm]; exact hab) (dif_ok (hB.mono (by decide)) (hA.mono (by decide)))
  have eCD := errL_small hA7.ok hB7.ok (by simpa using ha) (by simpa using hb) (by simpa using hab) (dif_ok hA7 hB7)
  rw [if_pos (.inl (by simp [hA0]))] at eAB
  rw [if_pos (.inr (by simp [hA0]))] at eBA
  rw [if_pos (.inl (by simp [hA0]))] at eCD
  refine cw_sr ?_
  refine steps_s (s_boxA 5 rfl rfl fun b5 => ?_)  -- outright.go:78
  refine steps_q rfl (q_assign rfl) ?_  -- outright.go:78
  refine steps_nil ?_
  refine cw_seq ?_
  refine cw_sr ?_
  refine steps_q rfl (q_move rfl) ?_  -- outright.go:79
  refine steps_q rfl (q_lenSl Tryz.underlying22 rfl) ?_  -- outright.go:79
  refine steps_q rfl (q_bin rfl rfl (gtr_f (by omega))) ?_  -- outright.go:79
  refine steps_q rfl (q_move rfl) ?_  -- outright.go:79
  refine steps_gq rfl rfl rfl (q_move rfl) ?_  -- outright.go:79
  refine steps_gq rfl rfl rfl (q_lenSl Tryz.underlying22 rfl) ?_  -- outright.go:79
  refine steps_gq rfl rfl rfl (q_bin rfl rfl (gtr_f (by omega))) ?_  -- outright.go:79
  refine steps_q rfl (q_pick_f rfl rfl) ?_  -- outright.go:79
  refine steps_q rfl (q_move rfl) ?_  -- outright.go:79
  refine steps_gq rfl rfl rfl (q_move rfl) ?_  -- outright.go:79
  refine steps_gq rfl rfl rfl (q_lenSl Tryz.underlying22 rfl) ?_  -- outright.go:79
  refine steps_gq rfl rfl rfl (q_move rfl) ?_  -- outright.go:79
  refine steps_gq rfl rfl rfl (q_lenSl Tryz.underlying22 rfl) ?_  -- outright.go:79
  refine steps_gq rfl rfl rfl (q_bin rfl rfl (mul64 (by omega) (by omega))) ?_  -- outright.go:79
  refine steps_gq rfl rfl rfl (q_bin rfl rfl (gtr_f (by omega))) ?_  -- outright.go:79
  refine steps_q rfl (q_pick_f rfl rfl) ?_  -- outright.go:79
  refine steps_q rfl (q_move rfl) ?_  -- outright.go:79
  refine steps_gq rfl rfl rfl (q_loadW 5 agg47 rfl rfl rfl) ?_  -- outright.go:79
  refine steps_gq rfl rfl rfl (q_pure ent16 rfl (grid_Check by')) ?_  -- outright.go:79
  refine steps_gq rfl rfl rfl (q_bin rfl rfl (neq_f (errP_in ⟨⟨x0, x1⟩, ⟨y0, y1⟩, ⟨z0, z1⟩⟩))) ?_  -- outright.go:79
  refine steps_q rfl (q_pick_f rfl rfl) ?_  -- outright.go:79
  refine steps_nil ?_
  refine cw_cond _ rfl (fun hc1 => ?_) (fun hc1 => ?_)
  · cases hc1
  · -- no 1
    refine cw_skip ?_
    refine at_then ?_
    refine cw_sr ?_
    refine steps_q rfl (q_field fld47_0 rfl) ?_  -- outright.go:82
    refine steps_q rfl (q_load1 5 one2 rfl rfl rfl) ?_  -- outright.go:82
    refine steps_q rfl (q_bin rfl rfl (quo8 x0 x1)) ?_  -- outright.go:82
    refine steps_q rfl (q_field fld47_1 rfl) ?_  -- outright.go:82
    refine steps_q rfl (q_load1 5 one2 rfl rfl rfl) ?_  -- outright.go:82
    refine steps_q rfl (q_bin rfl rfl (quo8 y0 y1)) ?_  -- outright.go:82
    refine steps_q rfl (q_field fld47_2 rfl) ?_  -- outright.go:82
    refine steps_q rfl (q_load1 5 one2 rfl rfl rfl) ?_  -- outright.go:82
    refine steps_q rfl (q_bin rfl rfl (quo8 z0 z1)) ?_  -- outright.go:82
    refine steps_q rfl (q_build (vs := [(0, _), (1, _), (2, _)]) rfl rfl (bldP ⟨by'.x.tdiv 8, by'.y.tdiv 8, by'.z.tdiv 8⟩)) ?_  -- outright.go:82
    rw [← hn]
    refine steps_s (s_allocA 7 rfl zer47 fun b7 => ?_)  -- outright.go:82
    refine steps_s (s_storeW 7 siz47 rfl rfl rfl rfl rfl rfl ?_)  -- outright.go:82
    refine steps_nil ?_
    refine cw_sr ?_
    refine steps_q rfl (q_move rfl) ?_  -- outright.go:83
    refine steps_q rfl (q_loadW 7 agg47 rfl rfl rfl) ?_  -- outright.go:83
    refine steps_q rfl (q_call ent17 rfl rfl (fun w' hw => by simpa using moved_nil w' (SlAt.st hu0 hw) hnin hA0)) ?_  -- outright.go:83
    refine steps_q rfl (q_move rfl) ?_  -- outright.go:83
    refine steps_q rfl (q_extract rfl rfl) ?_  -- outright.go:83
    refine steps_q rfl (q_extract rfl rfl) ?_  -- outright.go:83
    refine steps_q rfl (q_assign rfl) ?_  -- outright.go:83
    refine steps_q rfl (q_assign rfl) ?_  -- outright.go:83
    refine steps_nil ?_
    refine cw_sr ?_
    refine steps_q rfl (q_move rfl) ?_  -- outright.go:84
    refine steps_q rfl (q_loadW 7 agg47 rfl rfl rfl) ?_  -- outright.go:84
    refine steps_q rfl (q_call ent17 rfl rfl (fun w' hw => by simpa using moved_nil w' (SlAt.st hv0 hw) hnin hB0)) ?_  -- outright.go:84
    refine steps_q rfl (q_move rfl) ?_  -- outright.go:84
    refine steps_q rfl (q_extract rfl rfl) ?_  -- outright.go:84
    refine steps_q rfl (q_extract rfl rfl) ?_  -- outright.go:84
    refine steps_q rfl (q_assign rfl) ?_  -- outright.go:84
    refine steps_q rfl (q_assign rfl) ?_  -- outright.go:84
    refine steps_nil ?_
    refine cw_seq ?_
    refine cw_sr ?_
    refine steps_q rfl (q_move rfl) ?_  -- outright.go:85
    refine steps_q rfl (q_not rfl rfl) ?_  -- outright.go:85
    refine steps_q rfl (q_move rfl) ?_  -- outright.go:85
    refine steps_gq rfl rfl rfl (q_move rfl) ?_  -- outright.go:85
    refine steps_gq rfl rfl rfl (q_not rfl rfl) ?_  -- outright.go:85
    refine steps_q rfl (q_pick_f rfl rfl) ?_  -- outright.go:85
    refine steps_nil ?_
    refine cw_cond _ rfl (fun hc2 => ?_) (fun hc2 => ?_)
    · cases hc2
    · -- no 2
      refine cw_skip ?_
      refine at_then ?_
      refine cw_sr ?_
      refine steps_q rfl (q_move rfl) ?_  -- outright.go:88
      refine steps_q rfl (q_move rfl) ?_  -- outright.go:88
      refine steps_q rfl (q_call ent10 rfl rfl (fun w' hw => by simpa using apart_two w' (SlAt.st hu0 hw) (SlAt.st hv0 hw) (by omega) (by omega) eAB)) ?_  -- outright.go:88
      refine steps_q rfl (q_move rfl) ?_  -- outright.go:88
      refine steps_q rfl (q_extract rfl rfl) ?_  -- outright.go:88
      refine steps_q rfl (q_extract rfl rfl) ?_  -- outright.go:88
      refine steps_s (s_allocA 12 rfl zer36 fun b12 => ?_)  -- outright.go:88
      refine steps_s (s_storeW 12 siz36 rfl rfl rfl rfl rfl rfl ?_)  -- outright.go:88
      refine steps_q rfl (q_assign rfl) ?_  -- outright.go:88
      refine steps_nil ?_
      refine cw_sr ?_
      refine steps_q rfl (q_move rfl) ?_  -- outright.go:89
      refine steps_q rfl (q_move rfl) ?_  -- outright.go:89
      refine steps_q rfl (q_call ent10 rfl rfl (fun w' hw => by simpa using apart_two w' (SlAt.st hv0 hw) (SlAt.st hu0 hw) (by omega) (by omega) eBA)) ?_  -- outright.go:89
      refine steps_q rfl (q_move rfl) ?_  -- outright.go:89
      refine steps_q rfl (q_extract rfl rfl) ?_  -- outright.go:89
      refine steps_q rfl (q_extract rfl rfl) ?_  -- outright.go:89
      refine steps_s (s_allocA 14 rfl zer36 fun b14 => ?_)  -- outright.go:89
      refine steps_s (s_storeW 14 siz36 rfl rfl rfl rfl rfl rfl ?_)  -- outright.go:89
      refine steps_q rfl (q_assign rfl) ?_  -- outright.go:89
      refine steps_nil ?_
      refine cw_sr ?_
      refine steps_q rfl (q_move rfl) ?_  -- outright.go:90
      refine steps_q rfl (q_move rfl) ?_  -- outright.go:90
      refine steps_q rfl (q_call ent10 rfl rfl (fun w' hw => by simpa using apart_two (a := a.map (addP n)) (b := b.map (addP n)) w' (by rw [hA0]; exact told_nil w') (by rw [hB0]; exact told_nil w') (by simp; omega) (by simp; omega) eCD)) ?_  -- outright.go:90
      refine steps_q rfl (q_move rfl) ?_  -- outright.go:90
      refine steps_q rfl (q_extract rfl rfl) ?_  -- outright.go:90
      refine steps_q rfl (q_extract rfl rfl) ?_  -- outright.go:90
      refine steps_s (s_allocA 16 rfl zer36 fun b16 => ?_)  -- outright.go:90
      refine steps_s (s_storeW 16 siz36 rfl rfl rfl rfl rfl rfl ?_)  -- outright.go:90
      refine steps_q rfl (q_assign rfl) ?_  -- outright.go:90
      refine steps_nil ?_
      refine cw_seq ?_
      refine cw_sr ?_
      refine steps_q rfl (q_move rfl) ?_  -- outright.go:91
      refine steps_q rfl (q_move rfl) ?_  -- outright.go:91
      refine steps_q rfl (q_bin rfl rfl (neq_f rfl)) ?_  -- outright.go:91
      refine steps_q rfl (q_move rfl) ?_  -- outright.go:91
      refine steps_gq rfl rfl rfl (q_move rfl) ?_  -- outright.go:91
      refine steps_gq rfl rfl rfl (q_move rfl) ?_  -- outright.go:91
      refine steps_gq rfl rfl rfl (q_bin rfl rfl (neq_f rfl)) ?_  -- outright.go:91
      refine steps_q rfl (q_pick_f rfl rfl) ?_  -- outright.go:91
      refine steps_nil ?_
      refine cw_cond _ rfl (fun hc3 => ?_) (fun hc3 => ?_)
      · cases hc3
      · -- no 3
        refine cw_skip ?_
        refine at_then ?_
        refine cw_seq ?_
        refine cw_sr ?_
        refine steps_q rfl (q_move rfl) ?_  -- outright.go:94
        refine steps_q rfl (q_bin rfl rfl (neq_t (by decide))) ?_  -- outright.go:94
        refine steps_nil ?_
        refine cw_cond _ rfl (fun hc4 => ?_) (fun hc4 => ?_)
        · -- yes 4
          refine cw_sr ?_
          refine steps_q rfl (q_move rfl) ?_  -- outright.go:95
          refine steps_q rfl (q_lenSl Tryz.underlying22 rfl) ?_  -- outright.go:95
          refine steps_q rfl (q_bin rfl rfl (eql_t (by simp [hA0]))) ?_  -- outright.go:95
          refine steps_q rfl (q_move rfl) ?_  -- outright.go:95
          refine steps_gn rfl rfl rfl rfl ?_  -- outright.go:95
          refine steps_gn rfl rfl rfl rfl ?_  -- outright.go:95
          refine steps_gn rfl rfl rfl rfl ?_  -- outright.go:95
          refine steps_q rfl (q_pick_t rfl rfl) ?_  -- outright.go:95
          refine steps_q rfl (q_move rfl) ?_  -- outright.go:95
          refine steps_gq rfl rfl rfl (q_move rfl) ?_  -- outright.go:95
          refine steps_gq rfl rfl rfl (q_bin rfl rfl (eql_t rfl)) ?_  -- outright.go:95
          refine steps_q rfl (q_pick_t rfl rfl) ?_  -- outright.go:95
          refine steps_q rfl (q_move rfl) ?_  -- outright.go:95
          refine steps_gq rfl rfl rfl (q_pure ent6 rfl law_awake) ?_  -- outright.go:95
          refine steps_q rfl (q_pick_t rfl rfl) ?_  -- outright.go:95
          refine steps_q rfl (q_assign rfl) ?_  -- outright.go:95
          refine steps_nil ?_
          refine cw_ret ?_
          exact ret_pure rfl (rv_tmp rfl rv_nil) rfl
        · cases hc4
set_option maxHeartbeats 4000000 in
theorem both_nil_cons {a b : List Pt} {u v : Value} {by' : Pt} (w : World) (hu : PtsAt w u a) (hv : PtsAt w v b) (hla : a.length ≤ 9223372036854775807) (hlb : b.length ≤ 9223372036854775807) (ha : a.length ≤ 60) (hb : b.length ≤ 60) (hab : a.length * b.length ≤ 60) (hby : by'.In 268435456) (hA : small 67108864 a) (hA0 : a = []) (hB : small 67108864 b) (hB0 : b ≠ []) :
    Calls Tryz.prog 5 #[u, v, .agg by'.l.toArray] w fun e w' => e = .returned (.bool true) ∧ Below w.heap.size w w' := by
  have _ := hla
  have _ := hlb
  have hu0 := hu
  have hv0 := hv
  obtain ⟨x, c, rfl, hs⟩ := hu
  obtain ⟨y, c', rfl, hs'⟩ := hv
  rw [List.length_map] at hu0 ⊢
  rw [List.length_map] at hv0 ⊢
  refine calls_of Tryz.func5 rfl Tryz.ntmps5 rfl (St.start w) (args := [.slice x a.length c, .slice y b.length c', .agg by'.l.toArray]) ?_
  have hp1 : a.length * b.length ≤ 60 * 60 := Nat.mul_le_mul ha hb
  have hp2 : ((a.length * b.length : Nat) : Int) = (a.length : Int) * b.length := by push_cast; rfl
  obtain ⟨⟨x0, x1⟩, ⟨y0, y1⟩, ⟨z0, z1⟩⟩ := hby
  obtain ⟨n, hn⟩ : ∃ n : Pt, n = ⟨by'.x.tdiv 8, by'.y.tdiv 8, by'.z.tdiv 8⟩ := ⟨_, rfl⟩
  have hnin : n.In 33554432 := by rw [hn]; exact ⟨tdiv8 x0 x1, tdiv8 y0 y1, tdiv8 z0 z1⟩
  have _ := hA
  have _ := hB
  have hA7 := hA.moved hnin
  have hB7 := hB.moved hnin
  have eAB := errL_small (hA.mono (by decide)).ok (hB.mono (by decide)).ok ha hb hab (dif_ok (hA.mono (by decide)) (hB.mono (by decide)))
  have eBA := errL_small (hB.mono (by decide)).ok (hA.mono (by decide)).ok hb ha (by rw [Nat.mul_comm]; exact hab) (dif_ok (hB.mono (by decide)) (hA.mono (by decide)))
  have eCD := errL_small hA7.ok hB7.ok (by simpa using ha) (by simpa using hb) (by simpa using hab) (dif_ok hA7 hB7)
  rw [if_pos (.inl (by simp [hA0]))] at eAB
  rw [if_pos (.inr (by simp [hA0]))] at eBA
  rw [if_pos (.inl (by simp [hA0]))] at eCD
  refine cw_sr ?_
  refine steps_s (s_boxA 5 rfl rfl fun b5 => ?_)  -- outright.go:78
  refine steps_q rfl (q_assign rfl) ?_  -- outright.go:78
  refine steps_nil ?_
  refine cw_seq ?_
  refine cw_sr ?_
  refine steps_q rfl (q_move rfl) ?_  -- outright.go:79
  refine steps_q rfl (q_lenSl Tryz.underlying22 rfl) ?_  -- outright.go:79
  refine steps_q rfl (q_bin rfl rfl (gtr_f (by omega))) ?_  -- outright.go:79
  refine steps_q rfl (q_move rfl) ?_  -- outright.go:79
  refine steps_gq rfl rfl rfl (q_move rfl) ?_  -- outright.go:79
  refine steps_gq rfl rfl rfl (q_lenSl Tryz.underlying22 rfl) ?_  -- outright.go:79
  refine steps_gq rfl rfl rfl (q_bin rfl rfl (gtr_f (by omega))) ?_  -- outright.go:79
  refine steps_q rfl (q_pick_f rfl rfl) ?_  -- outright.go:79
  refine steps_q rfl (q_move rfl) ?_  -- outright.go:79
  refine steps_gq rfl rfl rfl (q_move rfl) ?_  -- outright.go:79
  refine steps_gq rfl rfl rfl (q_lenSl Tryz.underlying22 rfl) ?_  -- outright.go:79
  refine steps_gq rfl rfl rfl (q_move rfl) ?_  -- outright.go:79
  refine steps_gq rfl rfl rfl (q_lenSl Tryz.underlying22 rfl) ?_  -- outright.go:79
  refine steps_gq rfl rfl rfl (q_bin rfl rfl (mul64 (by omega) (by omega))) ?_  -- outright.go:79
  refine steps_gq rfl rfl rfl (q_bin rfl rfl (gtr_f (by omega))) ?_  -- outright.go:79
  refine steps_q rfl (q_pick_f rfl rfl) ?_  -- outright.go:79
  refine steps_q rfl (q_move rfl) ?_  -- outright.go:79
  refine steps_gq rfl rfl rfl (q_loadW 5 agg47 rfl rfl rfl) ?_  -- outright.go:79
  refine steps_gq rfl rfl rfl (q_pure ent16 rfl (grid_Check by')) ?_  -- outright.go:79
  refine steps_gq rfl rfl rfl (q_bin rfl rfl (neq_f (errP_in ⟨⟨x0, x1⟩, ⟨y0, y1⟩, ⟨z0, z1⟩⟩))) ?_  -- outright.go:79
  refine steps_q rfl (q_pick_f rfl rfl) ?_  -- outright.go:79
  refine steps_nil ?_
  refine cw_cond _ rfl (fun hc1 => ?_) (fun hc1 => ?_)
  · cases hc1
  · -- no 1
    refine cw_skip ?_
    refine at_then ?_
    refine cw_sr ?_
    refine steps_q rfl (q_field fld47_0 rfl) ?_  -- outright.go:82
    refine steps_q rfl (q_load1 5 one2 rfl rfl rfl) ?_  -- outright.go:82
    refine steps_q rfl (q_bin rfl rfl (quo8 x0 x1)) ?_  -- outright.go:82
    refine steps_q rfl (q_field fld47_1 rfl) ?_  -- outright.go:82
    refine steps_q rfl (q_load1 5 one2 rfl rfl rfl) ?_  -- outright.go:82
    refine steps_q rfl (q_bin rfl rfl (quo8 y0 y1)) ?_  -- outright.go:82
    refine steps_q rfl (q_field fld47_2 rfl) ?_  -- outright.go:82
    refine steps_q rfl (q_load1 5 one2 rfl rfl rfl) ?_  -- outright.go:82
    refine steps_q rfl (q_bin rfl rfl (quo8 z0 z1)) ?_  -- outright.go:82
    refine steps_q rfl (q_build (vs := [(0, _), (1, _), (2, _)]) rfl rfl (bldP ⟨by'.x.tdiv 8, by'.y.tdiv 8, by'.z.tdiv 8⟩)) ?_  -- outright.go:82
    rw [← hn]
    refine steps_s (s_allocA 7 rfl zer47 fun b7 => ?_)  -- outright.go:82
    refine steps_s (s_storeW 7 siz47 rfl rfl rfl rfl rfl rfl ?_)  -- outright.go:82
    refine steps_nil ?_
    refine cw_sr ?_
    refine steps_q rfl (q_move rfl) ?_  -- outright.go:83
    refine steps_q rfl (q_loadW 7 agg47 rfl rfl rfl) ?_  -- outright.go:83
    refine steps_q rfl (q_call ent17 rfl rfl (fun w' hw => by simpa using moved_nil w' (SlAt.st hu0 hw) hnin hA0)) ?_  -- outright.go:83
    refine steps_q rfl (q_move rfl) ?_  -- outright.go:83
    refine steps_q rfl (q_extract rfl rfl) ?_  -- outright.go:83
    refine steps_q rfl (q_extract rfl rfl) ?_  -- outright.go:83
    refine steps_q rfl (q_assign rfl) ?_  -- outright.go:83
    refine steps_q rfl (q_assign rfl) ?_  -- outright.go:83
    refine steps_nil ?_
    refine cw_sr ?_
    refine steps_q rfl (q_move rfl) ?_  -- outright.go:84
    refine steps_q rfl (q_loadW 7 agg47 rfl rfl rfl) ?_  -- outright.go:84
    refine steps_s (s_callSt ent17 rfl rfl rfl (R := MVi 71 n b) (fun w' hw => by simpa using moved_cons 71 w' (SlAt.st hv0 hw) (by omega) hnin hB hB0) fun v Ln hZ => ?_)  -- outright.go:84
    obtain ⟨g71, cur71, cap71, rfl, rfl, hsv71⟩ := hZ
    refine steps_q rfl (q_move rfl) ?_  -- outright.go:84
    refine steps_q rfl (q_extract rfl rfl) ?_  -- outright.go:84
    refine steps_q rfl (q_extract rfl rfl) ?_  -- outright.go:84
    refine steps_q rfl (q_assign rfl) ?_  -- outright.go:84
    refine steps_q rfl (q_assign rfl) ?_  -- outright.go:84
    refine steps_nil ?_
    refine cw_seq ?_
    refine cw_sr ?_
    refine steps_q rfl (q_move rfl) ?_  -- outright.go:85
    refine steps_q rfl (q_not rfl rfl) ?_  -- outright.go:85
    refine steps_q rfl (q_move rfl) ?_  -- outright.go:85
    refine steps_gq rfl rfl rfl (q_move rfl) ?_  -- outright.go:85
    refine steps_gq rfl rfl rfl (q_not rfl rfl) ?_  -- outright.go:85
    refine steps_q rfl (q_pick_f rfl rfl) ?_  -- outright.go:85
    refine steps_nil ?_
    refine cw_cond _ rfl (fun hc2 => ?_) (fun hc2 => ?_)
    · cases hc2
    · -- no 2
      refine cw_skip ?_
      refine at_then ?_
      refine cw_sr ?_
      refine steps_q rfl (q_move rfl) ?_  -- outright.go:88
      refine steps_q rfl (q_move rfl) ?_  -- outright.go:88
      refine steps_q rfl (q_call ent10 rfl rfl (fun w' hw => by simpa using apart_two w' (SlAt.st hu0 hw) (SlAt.st hv0 hw) (by omega) (by omega) eAB)) ?_  -- outright.go:88
      refine steps_q rfl (q_move rfl) ?_  -- outright.go:88
      refine steps_q rfl (q_extract rfl rfl) ?_  -- outright.go:88
      refine steps_q rfl (q_extract rfl rfl) ?_  -- outright.go:88
      refine steps_s (s_allocA 12 rfl zer36 fun b12 => ?_)  -- outright.go:88
      refine steps_s (s_storeW 12 siz36 rfl rfl rfl rfl rfl rfl ?_)  -- outright.go:88
      refine steps_q rfl (q_assign rfl) ?_  -- outright.go:88
      refine steps_nil ?_
      refine cw_sr ?_
      refine steps_q rfl (q_move rfl) ?_  -- outright.go:89
      refine steps_q rfl (q_move rfl) ?_  -- outright.go:89
      refine steps_q rfl (q_call ent10 rfl rfl (fun w' hw => by simpa using apart_two w' (SlAt.st hv0 hw) (SlAt.st hu0 hw) (by omega) (by omega) eBA)) ?_  -- outright.go:89
      refine steps_q rfl (q_move rfl) ?_  -- outright.go:89
      refine steps_q rfl (q_extract rfl rfl) ?_  -- outright.go:89
      refine steps_q rfl (q_extract rfl rfl) ?_  -- outright.go:89
      refine steps_s (s_allocA 14 rfl zer36 fun b14 => ?_)  -- outright.go:89
      refine steps_s (s_storeW 14 siz36 rfl rfl rfl rfl rfl rfl ?_)  -- outright.go:89
      refine steps_q rfl (q_assign rfl) ?_  -- outright.go:89
      refine steps_nil ?_
      refine cw_sr ?_
      refine steps_q rfl (q_move rfl) ?_  -- outright.go:90
      refine steps_q rfl (q_move rfl) ?_  -- outright.go:90
      refine steps_q rfl (q_call ent10 rfl rfl (fun w' hw => by simpa using apart_two (a := a.map (addP n)) (b := b.map (addP n)) w' (by rw [hA0]; exact told_nil w') (told_own (i := 71) hw rfl hsv71 (by simp)) (by simp; omega) (by simp; omega) eCD)) ?_  -- outright.go:90
      refine steps_q rfl (q_move rfl) ?_  -- outright.go:90
      refine steps_q rfl (q_extract rfl rfl) ?_  -- outright.go:90
      refine steps_q rfl (q_extract rfl rfl) ?_  -- outright.go:90
      refine steps_s (s_allocA 16 rfl zer36 fun b16 => ?_)  -- outright.go:90
      refine steps_s (s_storeW 16 siz36 rfl rfl rfl rfl rfl rfl ?_)  -- outright.go:90
      refine steps_q rfl (q_assign rfl) ?_  -- outright.go:90
      refine steps_nil ?_
      refine cw_seq ?_
      refine cw_sr ?_
      refine steps_q rfl (q_move rfl) ?_  -- outright.go:91
      refine steps_q rfl (q_move rfl) ?_  -- outright.go:91
      refine steps_q rfl (q_bin rfl rfl (neq_f rfl)) ?_  -- outright.go:91
      refine steps_q rfl (q_move rfl) ?_  -- outright.go:91
      refine steps_gq rfl rfl rfl (q_move rfl) ?_  -- outright.go:91
      refine steps_gq rfl rfl rfl (q_move rfl) ?_  -- outright.go:91
      refine steps_gq rfl rfl rfl (q_bin rfl rfl (neq_f rfl)) ?_  -- outright.go:91
      refine steps_q rfl (q_pick_f rfl rfl) ?_  -- outright.go:91
      refine steps_nil ?_
      refine cw_cond _ rfl (fun hc3 => ?_) (fun hc3 => ?_)
      · cases hc3
      · -- no 3
        refine cw_skip ?_
        refine at_then ?_
        refine cw_seq ?_
        refine cw_sr ?_
        refine steps_q rfl (q_move rfl) ?_  -- outright.go:94
        refine steps_q rfl (q_bin rfl rfl (neq_t (by decide))) ?_  -- outright.go:94
        refine steps_nil ?_
        refine cw_cond _ rfl (fun hc4 => ?_) (fun hc4 => ?_)
        · -- yes 4
          refine cw_sr ?_
          refine steps_q rfl (q_move rfl) ?_  -- outright.go:95
          refine steps_q rfl (q_lenSl Tryz.underlying22 rfl) ?_  -- outright.go:95
          refine steps_q rfl (q_bin rfl rfl (eql_t (by simp [hA0]))) ?_  -- outright.go:95
          refine steps_q rfl (q_move rfl) ?_  -- outright.go:95
          refine steps_gn rfl rfl rfl rfl ?_  -- outright.go:95
          refine steps_gn rfl rfl rfl rfl ?_  -- outright.go:95
          refine steps_gn rfl rfl rfl rfl ?_  -- outright.go:95
          refine steps_q rfl (q_pick_t rfl rfl) ?_  -- outright.go:95
          refine steps_q rfl (q_move rfl) ?_  -- outright.go:95
          refine steps_gq rfl rfl rfl (q_move rfl) ?_  -- outright.go:95
          refine steps_gq rfl rfl rfl (q_bin rfl rfl (eql_t rfl)) ?_  -- outright.go:95
          refine steps_q rfl (q_pick_t rfl rfl) ?_  -- outright.go:95
          refine steps_q rfl (q_move rfl) ?_  -- outright.go:95
          refine steps_gq rfl rfl rfl (q_pure ent6 rfl law_awake) ?_  -- outright.go:95
          refine steps_q rfl (q_pick_t rfl rfl) ?_  -- outright.go:95
          refine steps_q rfl (q_assign rfl) ?_  -- outright.go:95
          refine steps_nil ?_
          refine cw_ret ?_
          exact ret_pure rfl (rv_tmp rfl rv_nil) rfl
        · cases hc4
set_option maxHeartbeats 4000000 in
theorem both_cons_bad {a b : List Pt} {u v : Value} {by' : Pt} (w : World) (hu : PtsAt w u a) (hv : PtsAt w v b) (hla : a.length ≤ 9223372036854775807) (hlb : b.length ≤ 9223372036854775807) (ha : a.length ≤ 60) (hb : b.length ≤ 60) (hab : a.length * b.length ≤ 60) (hby : by'.In 268435456) (hA : small 67108864 a) (hA0 : a ≠ []) (hB : ¬ small 67108864 b) :
    Calls Tryz.prog 5 #[u, v, .agg by'.l.toArray] w fun e w' => e = .returned (.bool true) ∧ Below w.heap.size w w' := by
  have _ := hla
  have _ := hlb
  have hu0 := hu
  have hv0 := hv
  obtain ⟨x, c, rfl, hs⟩ := hu
  obtain ⟨y, c', rfl, hs'⟩ := hv
  rw [List.length_map] at hu0 ⊢
  rw [List.length_map] at hv0 ⊢
  refine calls_of Tryz.func5 rfl Tryz.ntmps5 rfl (St.start w) (args := [.slice x a.length c, .slice y b.length c', .agg by'.l.toArray]) ?_
  have hp1 : a.length * b.length ≤ 60 * 60 := Nat.mul_le_mul ha hb
  have hp2 : ((a.length * b.length : Nat) : Int) = (a.length : Int) * b.length := by push_cast; rfl
  obtain ⟨⟨x0, x1⟩, ⟨y0, y1⟩, ⟨z0, z1⟩⟩ := hby
  obtain ⟨n, hn⟩ : ∃ n : Pt, n = ⟨by'.x.tdiv 8, by'.y.tdiv 8, by'.z.tdiv 8⟩ := ⟨_, rfl⟩
  have hnin : n.In 33554432 := by rw [hn]; exact ⟨tdiv8 x0 x1, tdiv8 y0 y1, tdiv8 z0 z1⟩
  have _ := hA
  refine cw_sr ?_
  refine steps_s (s_boxA 5 rfl rfl fun b5 => ?_)  -- outright.go:78
  refine steps_q rfl (q_assign rfl) ?_  -- outright.go:78
  refine steps_nil ?_
  refine cw_seq ?_
  refine cw_sr ?_
  refine steps_q rfl (q_move rfl) ?_  -- outright.go:79
  refine steps_q rfl (q_lenSl Tryz.underlying22 rfl) ?_  -- outright.go:79
  refine steps_q rfl (q_bin rfl rfl (gtr_f (by omega))) ?_  -- outright.go:79
  refine steps_q rfl (q_move rfl) ?_  -- outright.go:79
  refine steps_gq rfl rfl rfl (q_move rfl) ?_  -- outright.go:79
  refine steps_gq rfl rfl rfl (q_lenSl Tryz.underlying22 rfl) ?_  -- outright.go:79
  refine steps_gq rfl rfl rfl (q_bin rfl rfl (gtr_f (by omega))) ?_  -- outright.go:79
  refine steps_q rfl (q_pick_f rfl rfl) ?_  -- outright.go:79
  refine steps_q rfl (q_move rfl) ?_  -- outright.go:79
  refine steps_gq rfl rfl rfl (q_move rfl) ?_  -- outright.go:79
  refine steps_gq rfl rfl rfl (q_lenSl Tryz.underlying22 rfl) ?_  -- outright.go:79
  refine steps_gq rfl rfl rfl (q_move rfl) ?_  -- outright.go:79
  refine steps_gq rfl rfl rfl (q_lenSl Tryz.underlying22 rfl) ?_  -- outright.go:79
  refine steps_gq rfl rfl rfl (q_bin rfl rfl (mul64 (by omega) (by omega))) ?_  -- outright.go:79
  refine steps_gq rfl rfl rfl (q_bin rfl rfl (gtr_f (by omega))) ?_  -- outright.go:79
  refine steps_q rfl (q_pick_f rfl rfl) ?_  -- outright.go:79
  refine steps_q rfl (q_move rfl) ?_  -- outright.go:79
  refine steps_gq rfl rfl rfl (q_loadW 5 agg47 rfl rfl rfl) ?_  -- outright.go:79
  refine steps_gq rfl rfl rfl (q_pure ent16 rfl (grid_Check by')) ?_  -- outright.go:79
  refine steps_gq rfl rfl rfl (q_bin rfl rfl (neq_f (errP_in ⟨⟨x0, x1⟩, ⟨y0, y1⟩, ⟨z0, z1⟩⟩))) ?_  -- outright.go:79
  refine steps_q rfl (q_pick_f rfl rfl) ?_  -- outright.go:79
  refine steps_nil ?_
  refine cw_cond _ rfl (fun hc1 => ?_) (fun hc1 => ?_)
  · cases hc1
  · -- no 1
    refine cw_skip ?_
    refine at_then ?_
    refine cw_sr ?_
    refine steps_q rfl (q_field fld47_0 rfl) ?_  -- outright.go:82
    refine steps_q rfl (q_load1 5 one2 rfl rfl rfl) ?_  -- outright.go:82
    refine steps_q rfl (q_bin rfl rfl (quo8 x0 x1)) ?_  -- outright.go:82
    refine steps_q rfl (q_field fld47_1 rfl) ?_  -- outright.go:82
    refine steps_q rfl (q_load1 5 one2 rfl rfl rfl) ?_  -- outright.go:82
    refine steps_q rfl (q_bin rfl rfl (quo8 y0 y1)) ?_  -- outright.go:82
    refine steps_q rfl (q_field fld47_2 rfl) ?_  -- outright.go:82
    refine steps_q rfl (q_load1 5 one2 rfl rfl rfl) ?_  -- outright.go:82
    refine steps_q rfl (q_bin rfl rfl (quo8 z0 z1)) ?_  -- outright.go:82
    refine steps_q rfl (q_build (vs := [(0, _), (1, _), (2, _)]) rfl rfl (bldP ⟨by'.x.tdiv 8, by'.y.tdiv 8, by'.z.tdiv 8⟩)) ?_  -- outright.go:82
    rw [← hn]
    refine steps_s (s_allocA 7 rfl zer47 fun b7 => ?_)  -- outright.go:82
    refine steps_s (s_storeW 7 siz47 rfl rfl rfl rfl rfl rfl ?_)  -- outright.go:82
    refine steps_nil ?_
    refine cw_sr ?_
    refine steps_q rfl (q_move rfl) ?_  -- outright.go:83
    refine steps_q rfl (q_loadW 7 agg47 rfl rfl rfl) ?_  -- outright.go:83
    refine steps_s (s_callSt ent17 rfl rfl rfl (R := MVi 70 n a) (fun w' hw => by simpa using moved_cons 70 w' (SlAt.st hu0 hw) (by omega) hnin hA hA0) fun v Ln hZ => ?_)  -- outright.go:83
    obtain ⟨g70, cur70, cap70, rfl, rfl, hsv70⟩ := hZ
    refine steps_q rfl (q_move rfl) ?_  -- outright.go:83
    refine steps_q rfl (q_extract rfl rfl) ?_  -- outright.go:83
    refine steps_q rfl (q_extract rfl rfl) ?_  -- outright.go:83
    refine steps_q rfl (q_assign rfl) ?_  -- outright.go:83
    refine steps_q rfl (q_assign rfl) ?_  -- outright.go:83
    refine steps_nil ?_
    refine cw_sr ?_
    refine steps_q rfl (q_move rfl) ?_  -- outright.go:84
    refine steps_q rfl (q_loadW 7 agg47 rfl rfl rfl) ?_  -- outright.go:84
    refine steps_q rfl (q_call ent17 rfl rfl (fun w' hw => by simpa using moved_bad w' (SlAt.st hv0 hw) (by omega) hnin hB)) ?_  -- outright.go:84
    refine steps_q rfl (q_move rfl) ?_  -- outright.go:84
    refine steps_q rfl (q_extract rfl rfl) ?_  -- outright.go:84
    refine steps_q rfl (q_extract rfl rfl) ?_  -- outright.go:84
    refine steps_q rfl (q_assign rfl) ?_  -- outright.go:84
    refine steps_q rfl (q_assign rfl) ?_  -- outright.go:84
    refine steps_nil ?_
    refine cw_seq ?_
    refine cw_sr ?_
    refine steps_q rfl (q_move rfl) ?_  -- outright.go:85
    refine steps_q rfl (q_not rfl rfl) ?_  -- outright.go:85
    refine steps_q rfl (q_move rfl) ?_  -- outright.go:85
    refine steps_gq rfl rfl rfl (q_move rfl) ?_  -- outright.go:85
    refine steps_gq rfl rfl rfl (q_not rfl rfl) ?_  -- outright.go:85
    refine steps_q rfl (q_pick_f rfl rfl) ?_  -- outright.go:85
    refine steps_nil ?_
    refine cw_cond _ rfl (fun hc2 => ?_) (fun hc2 => ?_)
    · -- yes 2
      refine cw_sr ?_
      refine steps_q rfl (q_pure ent6 rfl law_awake) ?_  -- outright.go:86
      refine steps_q rfl (q_assign rfl) ?_  -- outright.go:86
      refine steps_nil ?_
      refine cw_ret ?_
      exact ret_pure rfl (rv_tmp rfl rv_nil) rfl
    · cases hc2
set_option maxHeartbeats 4000000 in
theorem both_cons_nil {a b : List Pt} {u v : Value} {by' : Pt} (w : World) (hu : PtsAt w u a) (hv : PtsAt w v b) (hla : a.length ≤ 9223372036854775807) (hlb : b.length ≤ 9223372036854775807) (ha : a.length ≤ 60) (hb : b.length ≤ 60) (hab : a.length * b.length ≤ 60) (hby : by'.In 268435456) (hA : small 67108864 a) (hA0 : a ≠ []) (hB : small 67108864 b) (hB0 : b = []) :
    Calls Tryz.prog 5 #[u, v, .agg by'.l.toArray] w fun e w' => e = .returned (.bool true) ∧ Below w.heap.size w w' := by
  have _ := hla
  have _ := hlb
  have hu0 := hu
  have hv0 := hv
  obtain ⟨x, c, rfl, hs⟩ := hu
  obtain ⟨y, c', rfl, hs'⟩ := hv
  rw [List.length_map] at hu0 ⊢
  rw [List.length_map] at hv0 ⊢
  refine calls_of Tryz.func5 rfl Tryz.ntmps5 rfl (St.start w) (args := [.slice x a.length c, .slice y b.length c', .agg by'.l.toArray]) ?_
  have hp1 : a.length * b.length ≤ 60 * 60 := Nat.mul_le_mul ha hb
  have hp2 : ((a.length * b.length : Nat) : Int) = (a.length : Int) * b.length := by push_cast; rfl
  obtain ⟨⟨x0, x1⟩, ⟨y0, y1⟩, ⟨z0, z1⟩⟩ := hby
  obtain ⟨n, hn⟩ : ∃ n : Pt, n = ⟨by'.x.tdiv 8, by'.y.tdiv 8, by'.z.tdiv 8⟩ := ⟨_, rfl⟩
  have hnin : n.In 33554432 := by rw [hn]; exact ⟨tdiv8 x0 x1, tdiv8 y0 y1, tdiv8 z0 z1⟩
  have _ := hA
  have _ := hB
  have hA7 := hA.moved hnin
  have hB7 := hB.moved hnin
  have eAB := errL_small (hA.mono (by decide)).ok (hB.mono (by decide)).ok ha hb hab (dif_ok (hA.mono (by decide)) (hB.mono (by decide)))
  have eBA := errL_small (hB.mono (by decide)).ok (hA.mono (by decide)).ok hb ha (by rw [Nat.mul_comm]; exact hab) (dif_ok (hB.mono (by decide)) (hA.mono (by decide)))
  have eCD := errL_small hA7.ok hB7.ok (by simpa using ha) (by simpa using hb) (by simpa using hab) (dif_ok hA7 hB7)
  rw [if_pos (.inr (by simp [hB0]))] at eAB
  rw [if_pos (.inl (by simp [hB0]))] at eBA
  rw [if_pos (.inr (by simp [hB0]))] at eCD
  refine cw_sr ?_
  refine steps_s (s_boxA 5 rfl rfl fun b5 => ?_)  -- outright.go:78
  refine steps_q rfl (q_assign rfl) ?_  -- outright.go:78
  refine steps_nil ?_
  refine cw_seq ?_
  refine cw_sr ?_
  refine steps_q rfl (q_move rfl) ?_  -- outright.go:79
  refine steps_q rfl (q_lenSl Tryz.underlying22 rfl) ?_  -- outright.go:79
  refine steps_q rfl (q_bin rfl rfl (gtr_f (by omega))) ?_  -- outright.go:79
  refine steps_q rfl (q_move rfl) ?_  -- outright.go:79
  refine steps_gq rfl rfl rfl (q_move rfl) ?_  -- outright.go:79
  refine steps_gq rfl rfl rfl (q_lenSl Tryz.underlying22 rfl) ?_  -- outright.go:79
  refine steps_gq rfl rfl rfl (q_bin rfl rfl (gtr_f (by omega))) ?_  -- outright.go:79
  refine steps_q rfl (q_pick_f rfl rfl) ?_  -- outright.go:79
  refine steps_q rfl (q_move rfl) ?_  -- outright.go:79
  refine steps_gq rfl rfl rfl (q_move rfl) ?_  -- outright.go:79
  refine steps_gq rfl rfl rfl (q_lenSl Tryz.underlying22 rfl) ?_  -- outright.go:79
  refine steps_gq rfl rfl rfl (q_move rfl) ?_  -- outright.go:79
  refine steps_gq rfl rfl rfl (q_lenSl Tryz.underlying22 rfl) ?_  -- outright.go:79
  refine steps_gq rfl rfl rfl (q_bin rfl rfl (mul64 (by omega) (by omega))) ?_  -- outright.go:79
  refine steps_gq rfl rfl rfl (q_bin rfl rfl (gtr_f (by omega))) ?_  -- outright.go:79
  refine steps_q rfl (q_pick_f rfl rfl) ?_  -- outright.go:79
  refine steps_q rfl (q_move rfl) ?_  -- outright.go:79
  refine steps_gq rfl rfl rfl (q_loadW 5 agg47 rfl rfl rfl) ?_  -- outright.go:79
  refine steps_gq rfl rfl rfl (q_pure ent16 rfl (grid_Check by')) ?_  -- outright.go:79
  refine steps_gq rfl rfl rfl (q_bin rfl rfl (neq_f (errP_in ⟨⟨x0, x1⟩, ⟨y0, y1⟩, ⟨z0, z1⟩⟩))) ?_  -- outright.go:79
  refine steps_q rfl (q_pick_f rfl rfl) ?_  -- outright.go:79
  refine steps_nil ?_
  refine cw_cond _ rfl (fun hc1 => ?_) (fun hc1 => ?_)
  · cases hc1
  · -- no 1
    refine cw_skip ?_
    refine at_then ?_
    refine cw_sr ?_
    refine steps_q rfl (q_field fld47_0 rfl) ?_  -- outright.go:82
    refine steps_q rfl (q_load1 5 one2 rfl rfl rfl) ?_  -- outright.go:82
    refine steps_q rfl (q_bin rfl rfl (quo8 x0 x1)) ?_  -- outright.go:82
    refine steps_q rfl (q_field fld47_1 rfl) ?_  -- outright.go:82
    refine steps_q rfl (q_load1 5 one2 rfl rfl rfl) ?_  -- outright.go:82
    refine steps_q rfl (q_bin rfl rfl (quo8 y0 y1)) ?_  -- outright.go:82
    refine steps_q rfl (q_field fld47_2 rfl) ?_  -- outright.go:82
    refine steps_q rfl (q_load1 5 one2 rfl rfl rfl) ?_  -- outright.go:82
    refine steps_q rfl (q_bin rfl rfl (quo8 z0 z1)) ?_  -- outright.go:82
    refine steps_q rfl (q_build (vs := [(0, _), (1, _), (2, _)]) rfl rfl (bldP ⟨by'.x.tdiv 8, by'.y.tdiv 8, by'.z.tdiv 8⟩)) ?_  -- outright.go:82
    rw [← hn]
    refine steps_s (s_allocA 7 rfl zer47 fun b7 => ?_)  -- outright.go:82
    refine steps_s (s_storeW 7 siz47 rfl rfl rfl rfl rfl rfl ?_)  -- outright.go:82
    refine steps_nil ?_
    refine cw_sr ?_
    refine steps_q rfl (q_move rfl) ?_  -- outright.go:83
    refine steps_q rfl (q_loadW 7 agg47 rfl rfl rfl) ?_  -- outright.go:83
    refine steps_s (s_callSt ent17 rfl rfl rfl (R := MVi 70 n a) (fun w' hw => by simpa using moved_cons 70 w' (SlAt.st hu0 hw) (by omega) hnin hA hA0) fun v Ln hZ => ?_)  -- outright.go:83
    obtain ⟨g70, cur70, cap70, rfl, rfl, hsv70⟩ := hZ
    refine steps_q rfl (q_move rfl) ?_  -- outright.go:83
    refine steps_q rfl (q_extract rfl rfl) ?_  -- outright.go:83
    refine steps_q rfl (q_extract rfl rfl) ?_  -- outright.go:83
    refine steps_q rfl (q_assign rfl) ?_  -- outright.go:83
    refine steps_q rfl (q_assign rfl) ?_  -- outright.go:83
    refine steps_nil ?_
    refine cw_sr ?_
    refine steps_q rfl (q_move rfl) ?_  -- outright.go:84
    refine steps_q rfl (q_loadW 7 agg47 rfl rfl rfl) ?_  -- outright.go:84
    refine steps_q rfl (q_call ent17 rfl rfl (fun w' hw => by simpa using moved_nil w' (SlAt.st hv0 hw) hnin hB0)) ?_  -- outright.go:84
    refine steps_q rfl (q_move rfl) ?_  -- outright.go:84
    refine steps_q rfl (q_extract rfl rfl) ?_  -- outright.go:84
    refine steps_q rfl (q_extract rfl rfl) ?_  -- outright.go:84
    refine steps_q rfl (q_assign rfl) ?_  -- outright.go:84
    refine steps_q rfl (q_assign rfl) ?_  -- outright.go:84
    refine steps_nil ?_
    refine cw_seq ?_
    refine cw_sr ?_
    refine steps_q rfl (q_move rfl) ?_  -- outright.go:85
    refine steps_q rfl (q_not rfl rfl) ?_  -- outright.go:85
    refine steps_q rfl (q_move rfl) ?_  -- outright.go:85
    refine steps_gq rfl rfl rfl (q_move rfl) ?_  -- outright.go:85
    refine steps_gq rfl rfl rfl (q_not rfl rfl) ?_  -- outright.go:85
    refine steps_q rfl (q_pick_f rfl rfl) ?_  -- outright.go:85
    refine steps_nil ?_
    refine cw_cond _ rfl (fun hc2 => ?_) (fun hc2 => ?_)
    · cases hc2
    · -- no 2
      refine cw_skip ?_
      refine at_then ?_
      refine cw_sr ?_
      refine steps_q rfl (q_move rfl) ?_  -- outright.go:88
      refine steps_q rfl (q_move rfl) ?_  -- outright.go:88
      refine steps_q rfl (q_call ent10 rfl rfl (fun w' hw => by simpa using apart_two w' (SlAt.st hu0 hw) (SlAt.st hv0 hw) (by omega) (by omega) eAB)) ?_  -- outright.go:88
      refine steps_q rfl (q_move rfl) ?_  -- outright.go:88
      refine steps_q rfl (q_extract rfl rfl) ?_  -- outright.go:88
      refine steps_q rfl (q_extract rfl rfl) ?_  -- outright.go:88
      refine steps_s (s_allocA 12 rfl zer36 fun b12 => ?_)  -- outright.go:88
      refine steps_s (s_storeW 12 siz36 rfl rfl rfl rfl rfl rfl ?_)  -- outright.go:88
      refine steps_q rfl (q_assign rfl) ?_  -- outright.go:88
      refine steps_nil ?_
      refine cw_sr ?_
      refine steps_q rfl (q_move rfl) ?_  -- outright.go:89
      refine steps_q rfl (q_move rfl) ?_  -- outright.go:89
      refine steps_q rfl (q_call ent10 rfl rfl (fun w' hw => by simpa using apart_two w' (SlAt.st hv0 hw) (SlAt.st hu0 hw) (by omega) (by omega) eBA)) ?_  -- outright.go:89
      refine steps_q rfl (q_move rfl) ?_  -- outright.go:89
      refine steps_q rfl (q_extract rfl rfl) ?_  -- outright.go:89
      refine steps_q rfl (q_extract rfl rfl) ?_  -- outright.go:89
      refine steps_s (s_allocA 14 rfl zer36 fun b14 => ?_)  -- outright.go:89
      refine steps_s (s_storeW 14 siz36 rfl rfl rfl rfl rfl rfl ?_)  -- outright.go:89
      refine steps_q rfl (q_assign rfl) ?_  -- outright.go:89
      refine steps_nil ?_
      refine cw_sr ?_
      refine steps_q rfl (q_move rfl) ?_  -- outright.go:90
      refine steps_q rfl (q_move rfl) ?_  -- outright.go:90
      refine steps_q rfl (q_call ent10 rfl rfl (fun w' hw => by simpa using apart_two (a := a.map (addP n)) (b := b.map (addP n)) w' (told_own (i := 70) hw rfl hsv70 (by simp)) (by rw [hB0]; exact told_nil w') (by simp; omega) (by simp; omega) eCD)) ?_  -- outright.go:90
      refine steps_q rfl (q_move rfl) ?_  -- outright.go:90
      refine steps_q rfl (q_extract rfl rfl) ?_  -- outright.go:90
      refine steps_q rfl (q_extract rfl rfl) ?_  -- outright.go:90
      refine steps_s (s_allocA 16 rfl zer36 fun b16 => ?_)  -- outright.go:90
      refine steps_s (s_storeW 16 siz36 rfl rfl rfl rfl rfl rfl ?_)  -- outright.go:90
      refine steps_q rfl (q_assign rfl) ?_  -- outright.go:90
      refine steps_nil ?_
      refine cw_seq ?_
      refine cw_sr ?_
      refine steps_q rfl (q_move rfl) ?_  -- outright.go:91
      refine steps_q rfl (q_move rfl) ?_  -- outright.go:91
      refine steps_q rfl (q_bin rfl rfl (neq_f rfl)) ?_  -- outright.go:91
      refine steps_q rfl (q_move rfl) ?_  -- outright.go:91
      refine steps_gq rfl rfl rfl (q_move rfl) ?_  -- outright.go:91
      refine steps_gq rfl rfl rfl (q_move rfl) ?_  -- outright.go:91
      refine steps_gq rfl rfl rfl (q_bin rfl rfl (neq_f rfl)) ?_  -- outright.go:91
      refine steps_q rfl (q_pick_f rfl rfl) ?_  -- outright.go:91
      refine steps_nil ?_
      refine cw_cond _ rfl (fun hc3 => ?_) (fun hc3 => ?_)
      · cases hc3
      · -- no 3
        refine cw_skip ?_
        refine at_then ?_
        refine cw_seq ?_
        refine cw_sr ?_
        refine steps_q rfl (q_move rfl) ?_  -- outright.go:94
        refine steps_q rfl (q_bin rfl rfl (neq_t (by decide))) ?_  -- outright.go:94
        refine steps_nil ?_
        refine cw_cond _ rfl (fun hc4 => ?_) (fun hc4 => ?_)
        · -- yes 4
          refine cw_sr ?_
          refine steps_q rfl (q_move rfl) ?_  -- outright.go:95
          refine steps_q rfl (q_lenSl Tryz.underlying22 rfl) ?_  -- outright.go:95
          refine steps_q rfl (q_bin rfl rfl (eql_f (by intro h; exact hA0 (List.eq_nil_of_length_eq_zero (by omega))))) ?_  -- outright.go:95
          refine steps_q rfl (q_move rfl) ?_  -- outright.go:95
          refine steps_gq rfl rfl rfl (q_move rfl) ?_  -- outright.go:95
          refine steps_gq rfl rfl rfl (q_lenSl Tryz.underlying22 rfl) ?_  -- outright.go:95
          refine steps_gq rfl rfl rfl (q_bin rfl rfl (eql_t (by simp [hB0]))) ?_  -- outright.go:95
          refine steps_q rfl (q_pick_f rfl rfl) ?_  -- outright.go:95
          refine steps_q rfl (q_move rfl) ?_  -- outright.go:95
          refine steps_gq rfl rfl rfl (q_move rfl) ?_  -- outright.go:95
          refine steps_gq rfl rfl rfl (q_bin rfl rfl (eql_t rfl)) ?_  -- outright.go:95
          refine steps_q rfl (q_pick_t rfl rfl) ?_  -- outright.go:95
          refine steps_q rfl (q_move rfl) ?_  -- outright.go:95
          refine steps_gq rfl rfl rfl (q_pure ent6 rfl law_awake) ?_  -- outright.go:95
          refine steps_q rfl (q_pick_t rfl rfl) ?_  -- outright.go:95
          refine steps_q rfl (q_assign rfl) ?_  -- outright.go:95
          refine steps_nil ?_
          refine cw_ret ?_
          exact ret_pure rfl (rv_tmp rfl rv_nil) rfl
        · cases hc4
set_option maxHeartbeats 4000000 in
theorem both_cons_cons {a b : List Pt} {u v : Value} {by' : Pt} (w : World) (hu : PtsAt w u a) (hv : PtsAt w v b) (hla : a.length ≤ 9223372036854775807) (hlb : b.length ≤ 9223372036854775807) (ha : a.length ≤ 60) (hb : b.length ≤ 60) (hab : a.length * b.length ≤ 60) (hby : by'.In 268435456) (hA : small 67108864 a) (hA0 : a ≠ []) (hB : small 67108864 b) (hB0 : b ≠ []) :
    Calls Tryz.prog 5 #[u, v, .agg by'.l.toArray] w fun e w' => e = .returned (.bool true) ∧ Below w.heap.size w w' := by
  have _ := hla
  have _ := hlb
  have hu0 := hu
  have hv0 := hv
  obtain ⟨x, c, rfl, hs⟩ := hu
  obtain ⟨y, c', rfl, hs'⟩ := hv
  rw [List.length_map] at hu0 ⊢
  rw [List.length_map] at hv0 ⊢
  refine calls_of Tryz.func5 rfl Tryz.ntmps5 rfl (St.start w) (args := [.slice x a.length c, .slice y b.length c', .agg by'.l.toArray]) ?_
  have hp1 : a.length * b.length ≤ 60 * 60 := Nat.mul_le_mul ha hb
  have hp2 : ((a.length * b.length : Nat) : Int) = (a.length : Int) * b.length := by push_cast; rfl
  obtain ⟨⟨x0, x1⟩, ⟨y0, y1⟩, ⟨z0, z1⟩⟩ := hby
  obtain ⟨n, hn⟩ : ∃ n : Pt, n = ⟨by'.x.tdiv 8, by'.y.tdiv 8, by'.z.tdiv 8⟩ := ⟨_, rfl⟩
  have hnin : n.In 33554432 := by rw [hn]; exact ⟨tdiv8 x0 x1, tdiv8 y0 y1, tdiv8 z0 z1⟩
  have _ := hA
  have _ := hB
  have hA7 := hA.moved hnin
  have hB7 := hB.moved hnin
  have eAB := errL_small (hA.mono (by decide)).ok (hB.mono (by decide)).ok ha hb hab (dif_ok (hA.mono (by decide)) (hB.mono (by decide)))
  have eBA := errL_small (hB.mono (by decide)).ok (hA.mono (by decide)).ok hb ha (by rw [Nat.mul_comm]; exact hab) (dif_ok (hB.mono (by decide)) (hA.mono (by decide)))
  have eCD := errL_small hA7.ok hB7.ok (by simpa using ha) (by simpa using hb) (by simpa using hab) (dif_ok hA7 hB7)
  have la : 1 ≤ a.length := by cases a with | nil => exact absurd rfl hA0 | cons => simp
  have lb : 1 ≤ b.length := by cases b with | nil => exact absurd rfl hB0 | cons => simp
  rw [if_neg (by omega)] at eAB
  rw [if_neg (by omega)] at eBA
  rw [if_neg (by simp only [List.length_map]; omega)] at eCD
  have okd := (errG_ok.1 (errL_zero eAB)).1
  have okd2 := (errG_ok.1 (errL_zero eBA)).1
  refine cw_sr ?_
  refine steps_s (s_boxA 5 rfl rfl fun b5 => ?_)  -- outright.go:78
  refine steps_q rfl (q_assign rfl) ?_  -- outright.go:78
  refine steps_nil ?_
  refine cw_seq ?_
  refine cw_sr ?_
  refine steps_q rfl (q_move rfl) ?_  -- outright.go:79
  refine steps_q rfl (q_lenSl Tryz.underlying22 rfl) ?_  -- outright.go:79
  refine steps_q rfl (q_bin rfl rfl (gtr_f (by omega))) ?_  -- outright.go:79
  refine steps_q rfl (q_move rfl) ?_  -- outright.go:79
  refine steps_gq rfl rfl rfl (q_move rfl) ?_  -- outright.go:79
  refine steps_gq rfl rfl rfl (q_lenSl Tryz.underlying22 rfl) ?_  -- outright.go:79
  refine steps_gq rfl rfl rfl (q_bin rfl rfl (gtr_f (by omega))) ?_  -- outright.go:79
  refine steps_q rfl (q_pick_f rfl rfl) ?_  -- outright.go:79
  refine steps_q rfl (q_move rfl) ?_  -- outright.go:79
  refine steps_gq rfl rfl rfl (q_move rfl) ?_  -- outright.go:79
  refine steps_gq rfl rfl rfl (q_lenSl Tryz.underlying22 rfl) ?_  -- outright.go:79
  refine steps_gq rfl rfl rfl (q_move rfl) ?_  -- outright.go:79
  refine steps_gq rfl rfl rfl (q_lenSl Tryz.underlying22 rfl) ?_  -- outright.go:79
  refine steps_gq rfl rfl rfl (q_bin rfl rfl (mul64 (by omega) (by omega))) ?_  -- outright.go:79
  refine steps_gq rfl rfl rfl (q_bin rfl rfl (gtr_f (by omega))) ?_  -- outright.go:79
  refine steps_q rfl (q_pick_f rfl rfl) ?_  -- outright.go:79
  refine steps_q rfl (q_move rfl) ?_  -- outright.go:79
  refine steps_gq rfl rfl rfl (q_loadW 5 agg47 rfl rfl rfl) ?_  -- outright.go:79
  refine steps_gq rfl rfl rfl (q_pure ent16 rfl (grid_Check by')) ?_  -- outright.go:79
  refine steps_gq rfl rfl rfl (q_bin rfl rfl (neq_f (errP_in ⟨⟨x0, x1⟩, ⟨y0, y1⟩, ⟨z0, z1⟩⟩))) ?_  -- outright.go:79
  refine steps_q rfl (q_pick_f rfl rfl) ?_  -- outright.go:79
  refine steps_nil ?_
  refine cw_cond _ rfl (fun hc1 => ?_) (fun hc1 => ?_)
  · cases hc1
  · -- no 1
    refine cw_skip ?_
    refine at_then ?_
    refine cw_sr ?_
    refine steps_q rfl (q_field fld47_0 rfl) ?_  -- outright.go:82
    refine steps_q rfl (q_load1 5 one2 rfl rfl rfl) ?_  -- outright.go:82
    refine steps_q rfl (q_bin rfl rfl (quo8 x0 x1)) ?_  -- outright.go:82
    refine steps_q rfl (q_field fld47_1 rfl) ?_  -- outright.go:82
    refine steps_q rfl (q_load1 5 one2 rfl rfl rfl) ?_  -- outright.go:82
    refine steps_q rfl (q_bin rfl rfl (quo8 y0 y1)) ?_  -- outright.go:82
    refine steps_q rfl (q_field fld47_2 rfl) ?_  -- outright.go:82
    refine steps_q rfl (q_load1 5 one2 rfl rfl rfl) ?_  -- outright.go:82
    refine steps_q rfl (q_bin rfl rfl (quo8 z0 z1)) ?_  -- outright.go:82
    refine steps_q rfl (q_build (vs := [(0, _), (1, _), (2, _)]) rfl rfl (bldP ⟨by'.x.tdiv 8, by'.y.tdiv 8, by'.z.tdiv 8⟩)) ?_  -- outright.go:82
    rw [← hn]
    refine steps_s (s_allocA 7 rfl zer47 fun b7 => ?_)  -- outright.go:82
    refine steps_s (s_storeW 7 siz47 rfl rfl rfl rfl rfl rfl ?_)  -- outright.go:82
    refine steps_nil ?_
    refine cw_sr ?_
    refine steps_q rfl (q_move rfl) ?_  -- outright.go:83
    refine steps_q rfl (q_loadW 7 agg47 rfl rfl rfl) ?_  -- outright.go:83
    refine steps_s (s_callSt ent17 rfl rfl rfl (R := MVi 70 n a) (fun w' hw => by simpa using moved_cons 70 w' (SlAt.st hu0 hw) (by omega) hnin hA hA0) fun v Ln hZ => ?_)  -- outright.go:83
    obtain ⟨g70, cur70, cap70, rfl, rfl, hsv70⟩ := hZ
    refine steps_q rfl (q_move rfl) ?_  -- outright.go:83
    refine steps_q rfl (q_extract rfl rfl) ?_  -- outright.go:83
    refine steps_q rfl (q_extract rfl rfl) ?_  -- outright.go:83
    refine steps_q rfl (q_assign rfl) ?_  -- outright.go:83
    refine steps_q rfl (q_assign rfl) ?_  -- outright.go:83
    refine steps_nil ?_
    refine cw_sr ?_
    refine steps_q rfl (q_move rfl) ?_  -- outright.go:84
    refine steps_q rfl (q_loadW 7 agg47 rfl rfl rfl) ?_  -- outright.go:84
    refine steps_s (s_callSt ent17 rfl rfl rfl (R := MVi 71 n b) (fun w' hw => by simpa using moved_cons 71 w' (SlAt.st hv0 hw) (by omega) hnin hB hB0) fun v Ln hZ => ?_)  -- outright.go:84
    obtain ⟨g71, cur71, cap71, rfl, rfl, hsv71⟩ := hZ
    refine steps_q rfl (q_move rfl) ?_  -- outright.go:84
    refine steps_q rfl (q_extract rfl rfl) ?_  -- outright.go:84
    refine steps_q rfl (q_extract rfl rfl) ?_  -- outright.go:84
    refine steps_q rfl (q_assign rfl) ?_  -- outright.go:84
    refine steps_q rfl (q_assign rfl) ?_  -- outright.go:84
    refine steps_nil ?_
    refine cw_seq ?_
    refine cw_sr ?_
    refine steps_q rfl (q_move rfl) ?_  -- outright.go:85
    refine steps_q rfl (q_not rfl rfl) ?_  -- outright.go:85
    refine steps_q rfl (q_move rfl) ?_  -- outright.go:85
    refine steps_gq rfl rfl rfl (q_move rfl) ?_  -- outright.go:85
    refine steps_gq rfl rfl rfl (q_not rfl rfl) ?_  -- outright.go:85
    refine steps_q rfl (q_pick_f rfl rfl) ?_  -- outright.go:85
    refine steps_nil ?_
    refine cw_cond _ rfl (fun hc2 => ?_) (fun hc2 => ?_)
    · cases hc2
    · -- no 2
      refine cw_skip ?_
      refine at_then ?_
      refine cw_sr ?_
      refine steps_q rfl (q_move rfl) ?_  -- outright.go:88
      refine steps_q rfl (q_move rfl) ?_  -- outright.go:88
      refine steps_s (s_callSt ent10 rfl rfl rfl (R := GN (dif a b)) (fun w' hw => by simpa using gjk_Apart_ok w' (SlAt.st hu0 hw) (SlAt.st hv0 hw) hla hlb eAB) fun v Ln hZ => ?_)  -- outright.go:88
      obtain ⟨own1, g1, cur1, cap1, hE1, rfl, rfl, hsv1⟩ := hZ
      have hf1 := ends_fits okd hE1
      refine steps_q rfl (q_move rfl) ?_  -- outright.go:88
      refine steps_q rfl (q_extract rfl rfl) ?_  -- outright.go:88
      refine steps_q rfl (q_extract rfl rfl) ?_  -- outright.go:88
      refine steps_s (s_allocA 12 rfl zer36 fun b12 => ?_)  -- outright.go:88
      refine steps_s (s_storeW 12 siz36 rfl rfl rfl rfl rfl rfl ?_)  -- outright.go:88
      refine steps_q rfl (q_assign rfl) ?_  -- outright.go:88
      refine steps_nil ?_
      refine cw_sr ?_
      refine steps_q rfl (q_move rfl) ?_  -- outright.go:89
      refine steps_q rfl (q_move rfl) ?_  -- outright.go:89
      refine steps_s (s_callSt ent10 rfl rfl rfl (R := GN (dif b a)) (fun w' hw => by simpa using gjk_Apart_ok w' (SlAt.st hv0 hw) (SlAt.st hu0 hw) hlb hla eBA) fun v Ln hZ => ?_)  -- outright.go:89
      obtain ⟨own2, g2, cur2, cap2, hE2, rfl, rfl, hsv2⟩ := hZ
      have hf2 := ends_fits okd2 hE2
      have hneg := nr_neg hE1 hE2
      refine steps_q rfl (q_move rfl) ?_  -- outright.go:89
      refine steps_q rfl (q_extract rfl rfl) ?_  -- outright.go:89
      refine steps_q rfl (q_extract rfl rfl) ?_  -- outright.go:89
      refine steps_s (s_allocA 14 rfl zer36 fun b14 => ?_)  -- outright.go:89
      refine steps_s (s_storeW 14 siz36 rfl rfl rfl rfl rfl rfl ?_)  -- outright.go:89
      refine steps_q rfl (q_assign rfl) ?_  -- outright.go:89
      refine steps_nil ?_
      refine cw_sr ?_
      refine steps_q rfl (q_move rfl) ?_  -- outright.go:90
      refine steps_q rfl (q_move rfl) ?_  -- outright.go:90
      refine steps_s (s_callSt ent10 rfl rfl rfl (R := GN (dif a b)) (fun w' hw => by simpa using apart_moved w' (told_own (i := 70) hw rfl hsv70 (by simp)) (told_own (i := 71) hw rfl hsv71 (by simp)) (by omega) (by omega) eCD) fun v Ln hZ => ?_)  -- outright.go:90
      obtain ⟨own3, g3, cur3, cap3, hE3, rfl, rfl, hsv3⟩ := hZ
      have hsame := nr_same hE1 hE3 (fun _ h => h) hE1.2
      refine steps_q rfl (q_move rfl) ?_  -- outright.go:90
      refine steps_q rfl (q_extract rfl rfl) ?_  -- outright.go:90
      refine steps_q rfl (q_extract rfl rfl) ?_  -- outright.go:90
      refine steps_s (s_allocA 16 rfl zer36 fun b16 => ?_)  -- outright.go:90
      refine steps_s (s_storeW 16 siz36 rfl rfl rfl rfl rfl rfl ?_)  -- outright.go:90
      refine steps_q rfl (q_assign rfl) ?_  -- outright.go:90
      refine steps_nil ?_
      refine cw_seq ?_
      refine cw_sr ?_
      refine steps_q rfl (q_move rfl) ?_  -- outright.go:91
      refine steps_q rfl (q_move rfl) ?_  -- outright.go:91
      refine steps_q rfl (q_bin rfl rfl (neq_f rfl)) ?_  -- outright.go:91
      refine steps_q rfl (q_move rfl) ?_  -- outright.go:91
      refine steps_gq rfl rfl rfl (q_move rfl) ?_  -- outright.go:91
      refine steps_gq rfl rfl rfl (q_move rfl) ?_  -- outright.go:91
      refine steps_gq rfl rfl rfl (q_bin rfl rfl (neq_f rfl)) ?_  -- outright.go:91
      refine steps_q rfl (q_pick_f rfl rfl) ?_  -- outright.go:91
      refine steps_nil ?_
      refine cw_cond _ rfl (fun hc3 => ?_) (fun hc3 => ?_)
      · cases hc3
      · -- no 3
        refine cw_skip ?_
        refine at_then ?_
        refine cw_seq ?_
        refine cw_sr ?_
        refine steps_q rfl (q_move rfl) ?_  -- outright.go:94
        refine steps_q rfl (q_bin rfl rfl (neq_f rfl)) ?_  -- outright.go:94
        refine steps_nil ?_
        refine cw_cond _ rfl (fun hc4 => ?_) (fun hc4 => ?_)
        · cases hc4
        · -- no 4
          refine cw_skip ?_
          refine at_then ?_
          refine cw_sd mixed [0, 1, 2, 3, 4, 5, 6, 7, 8, 9, 10, 11, 12] 2 (without _ [18]) (by kernel_rfl) (sub_without _ _) ?_
          refine qi_q rfl rfl (q_field fld36_0 rfl) ?_  -- outright.go:97
          refine qi_q rfl rfl (q_field fld33_0 rfl) ?_  -- outright.go:97
          refine qi_q rfl rfl (q_loadA 12 agg31 rfl rfl (nrx _)) ?_  -- outright.go:97
          refine qi_q rfl rfl (q_pure ent18 rfl (law_opposite (fits_mid hf1.1.1) (fits_neg hf1.1.1))) ?_  -- outright.go:97
          refine qi_q rfl rfl (q_field fld36_0 rfl) ?_  -- outright.go:97
          refine qi_q rfl rfl (q_field fld33_1 rfl) ?_  -- outright.go:97
          refine qi_q rfl rfl (q_loadA 12 agg31 rfl rfl (nry _)) ?_  -- outright.go:97
          refine qi_q rfl rfl (q_pure ent18 rfl (law_opposite (fits_mid hf1.1.2.1) (fits_neg hf1.1.2.1))) ?_  -- outright.go:97
          refine qi_q rfl rfl (q_field fld36_0 rfl) ?_  -- outright.go:97
          refine qi_q rfl rfl (q_field fld33_2 rfl) ?_  -- outright.go:97
          refine qi_q rfl rfl (q_loadA 12 agg31 rfl rfl (nrz _)) ?_  -- outright.go:97
          refine qi_q rfl rfl (q_pure ent18 rfl (law_opposite (fits_mid hf1.1.2.2) (fits_neg hf1.1.2.2))) ?_  -- outright.go:97
          refine qi_q rfl rfl (q_build (vs := [(0, _), (1, _), (2, _)]) rfl rfl (bldS (negS (nrOf (sel (dif a b) own1)).n))) ?_  -- outright.go:97
          refine qi_nil ?_
          refine tail_one 13 (by kernel_rfl) rfl rfl (s_allocA 18 rfl zer33 fun b18 => ⟨(subl_cons rfl (sub_without _ _)), ?_⟩)  -- outright.go:97
          refine tail_one 14 (by kernel_rfl) rfl rfl (s_storeW 18 siz33 rfl rfl rfl rfl rfl rfl ⟨(subl_cons rfl (subl_cons rfl (sub_without _ _))), ?_⟩)  -- outright.go:97
          refine tail_nil (by kernel_rfl) ?_
          refine cw_seq ?_
          refine cw_sr ?_
          refine steps_q rfl (q_field fld36_0 rfl) ?_  -- outright.go:98
          refine steps_q rfl (q_loadA 14 agg33 rfl rfl (nr0 _)) ?_  -- outright.go:98
          refine steps_q rfl (q_loadW 18 agg33 rfl rfl rfl) ?_  -- outright.go:98
          refine steps_q rfl (q_aneq rfl rfl (eqlS (in_fits hf2.1) ⟨fits_neg hf1.1.1, fits_neg hf1.1.2.1, fits_neg hf1.1.2.2⟩) (show (!decide ((nrOf (sel (dif b a) own2)).n = negS (nrOf (sel (dif a b) own1)).n)) = false by rw [hneg.1]; simp)) ?_  -- outright.go:98
          refine steps_q rfl (q_move rfl) ?_  -- outright.go:98
          refine steps_gq rfl rfl rfl (q_field fld36_1 rfl) ?_  -- outright.go:98
          refine steps_gq rfl rfl rfl (q_loadA 14 agg31 rfl rfl (nr1 _)) ?_  -- outright.go:98
          refine steps_gq rfl rfl rfl (q_field fld36_1 rfl) ?_  -- outright.go:98
          refine steps_gq rfl rfl rfl (q_loadA 12 agg31 rfl rfl (nr1 _)) ?_  -- outright.go:98
          refine steps_gq rfl rfl rfl (q_aneq rfl rfl (eqlW (fitsD hf2.2) (fitsD hf1.2)) (show (!decide ((nrOf (sel (dif b a) own2)).d = (nrOf (sel (dif a b) own1)).d)) = false by rw [hneg.2]; simp)) ?_  -- outright.go:98
          refine steps_q rfl (q_pick_f rfl rfl) ?_  -- outright.go:98
          refine steps_q rfl (q_move rfl) ?_  -- outright.go:98
          refine steps_gq rfl rfl rfl (q_loadW 12 agg36 rfl rfl rfl) ?_  -- outright.go:98
          refine steps_gq rfl rfl rfl (q_loadW 16 agg36 rfl rfl rfl) ?_  -- outright.go:98
          refine steps_gq rfl rfl rfl (q_pure ent12 rfl (law_same_nr hsame hf1)) ?_  -- outright.go:98
          refine steps_gq rfl rfl rfl (q_not rfl rfl) ?_  -- outright.go:98
          refine steps_q rfl (q_pick_f rfl rfl) ?_  -- outright.go:98
          refine steps_nil ?_
          refine cw_cond _ rfl (fun hc5 => ?_) (fun hc5 => ?_)
          · cases hc5
          · -- no 5
            refine cw_skip ?_
            refine at_then ?_
            refine cw_sr ?_
            refine steps_q rfl (q_field fld36_0 rfl) ?_  -- outright.go:101
            refine steps_q rfl (q_loadA 12 agg33 rfl rfl (nr0 _)) ?_  -- outright.go:101
            refine steps_q rfl (q_build (vs := []) rfl rfl bldS0L) ?_  -- outright.go:101
            refine steps_q rfl (q_aeql rfl rfl (eqlS (in_fits hf1.1) z3fits)) ?_  -- outright.go:101
            refine steps_q rfl (q_assign rfl) ?_  -- outright.go:101
            refine steps_nil ?_
            refine cw_sr ?_
            refine steps_q rfl (q_assign rfl) ?_  -- outright.go:102
            refine steps_nil ?_
            refine cw_seq ?_
            refine cw_sr ?_
            refine steps_q rfl (q_assign rfl) ?_  -- outright.go:103
            refine steps_nil ?_
            refine cw_block ?_
            -- LOOP 1 writes [20, 21, 22, 155, 156, 157, 158, 159, 160, 161, 162, 163, 164, 165, 166, 167, 168, 169, 170, 171, 172, 173, 174, 175, 176, 177, 178]  stores via []  reads [0, 1]
            refine cw_loop (S := Nat × Bool) (fun s => [(0, .slice x a.length c), (1, .slice y b.length c'), (19, .bool (decide ((nrOf (sel (dif a b) own1)).n = ⟨0, 0, 0⟩))), (20, .bool s.2), (21, .int .i64 s.1)]) (fun _ => []) (fun s => s.1 ≤ a.length ∧ (s.2 = true → ∃ p, p ∈ a ∧ p ∈ b)) (fun s => a.length - s.1) (0, false) ⟨by dsimp only; omega, by simp⟩ (subs ⟨rfl, rfl, rfl, rfl, rfl, trivial⟩) (subs trivial) ?_
            rintro ⟨i, s⟩ ⟨i1, hsh⟩
            dsimp only at i1 hsh
            conv => enter [7]; dsimp only
            conv => enter [8]; dsimp only
            refine cw_seq ?_
            refine cw_sr ?_
            refine steps_q rfl (q_move rfl) ?_  -- outright.go:103
            refine steps_q rfl (q_move rfl) ?_  -- outright.go:103
            refine steps_q rfl (q_lenSl Tryz.underlying22 rfl) ?_  -- outright.go:103
            refine steps_q rfl (q_bin rfl rfl rfl) ?_  -- outright.go:103
            refine steps_nil ?_
            refine cw_cond _ rfl (fun hc6 => ?_) (fun hc6 => ?_)
            · -- yes 6
              have hi : (i : Int) < a.length := of_decide_eq_true hc6
              obtain ⟨p, hp⟩ : ∃ p, a[i]? = some p := ⟨a[i]'(by omega), List.getElem?_eq_getElem (by omega)⟩
              have hpl : (a.map Pt.l)[(i : Int).toNat]? = some p.l := by rw [Int.toNat_natCast, List.getElem?_map, hp]; rfl
              obtain ⟨bl, off, l0, fz, rfl, hbk, hpt⟩ := hs.resolve_left (by intro h; rw [h] at hpl; simp at hpl)
              refine cw_skip ?_
              refine at_then ?_
              refine cw_seq ?_
              refine cw_block ?_
              refine cw_sr ?_
              refine steps_q rfl (q_assign rfl) ?_  -- outright.go:104
              refine steps_nil ?_
              refine cw_block ?_
              -- LOOP 2 writes [20, 22, 161, 162, 163, 164, 165, 166, 167, 168, 169, 170, 171, 172, 173, 174, 175, 176, 177, 178]  stores via []  reads [0, 1, 21]
              refine cw_loop (S := Nat × Bool) (fun s => [(0, .slice (some ⟨bl, off, none⟩) a.length c), (1, .slice y b.length c'), (19, .bool (decide ((nrOf (sel (dif a b) own1)).n = ⟨0, 0, 0⟩))), (20, .bool s.2), (21, .int .i64 i), (22, .int .i64 s.1)]) (fun _ => []) (fun s => s.1 ≤ b.length ∧ (s.2 = true → ∃ p, p ∈ a ∧ p ∈ b)) (fun s => b.length - s.1) (0, s) ⟨by dsimp only; omega, hsh⟩ (subs ⟨rfl, rfl, rfl, rfl, rfl, rfl, trivial⟩) (subs trivial) ?_
              rintro ⟨j, t⟩ ⟨j1, hth⟩
              dsimp only at j1 hth
              conv => enter [7]; dsimp only
              conv => enter [8]; dsimp only
              refine cw_seq ?_
              refine cw_sr ?_
              refine steps_q rfl (q_move rfl) ?_  -- outright.go:104
              refine steps_q rfl (q_move rfl) ?_  -- outright.go:104
              refine steps_q rfl (q_lenSl Tryz.underlying22 rfl) ?_  -- outright.go:104
              refine steps_q rfl (q_bin rfl rfl rfl) ?_  -- outright.go:104
              refine steps_nil ?_
              refine cw_cond _ rfl (fun hc7 => ?_) (fun hc7 => ?_)
              · -- yes 7
                have hj : (j : Int) < b.length := of_decide_eq_true hc7
                obtain ⟨q, hq⟩ : ∃ q, b[j]? = some q := ⟨b[j]'(by omega), List.getElem?_eq_getElem (by omega)⟩
                have hql : (b.map Pt.l)[(j : Int).toNat]? = some q.l := by rw [Int.toNat_natCast, List.getElem?_map, hq]; rfl
                obtain ⟨bl', off', l0', fz', rfl, hbk', hpt'⟩ := hs'.resolve_left (by intro h; rw [h] at hql; simp at hql)
                refine cw_skip ?_
                refine at_then ?_
                refine cw_seq ?_
                refine cw_block ?_
                cases t
                · -- way 26.a
                  refine cw_draw mixed [0, 1, 2, 3, 4, 5, 6, 7, 8, 9, 10, 11, 12] 0 _ (by kernel_rfl) (SubL.refl _) ?_
                  refine qi_q rfl rfl (q_move rfl) ?_  -- outright.go:105
                  refine qi_q rfl rfl (q_move rfl) ?_  -- outright.go:105
                  refine qi_gq rfl rfl rfl rfl (q_move rfl) ?_  -- outright.go:105
                  refine qi_gq rfl rfl rfl rfl (q_move rfl) ?_  -- outright.go:105
                  refine qi_gq rfl rfl rfl rfl (q_indexSl slc22 rfl rfl (by omega) hi) ?_  -- outright.go:105
                  refine qi_gq rfl rfl rfl rfl (q_loadAo agg47 rfl hbk (by simp) (hpt _ _ hpl)) ?_  -- outright.go:105
                  refine qi_gq rfl rfl rfl rfl (q_move rfl) ?_  -- outright.go:105
                  refine qi_gq rfl rfl rfl rfl (q_move rfl) ?_  -- outright.go:105
                  refine qi_gq rfl rfl rfl rfl (q_indexSl slc22 rfl rfl (by omega) hj) ?_  -- outright.go:105
                  refine qi_gq rfl rfl rfl rfl (q_loadAo agg47 rfl hbk' (by simp) (hpt' _ _ hql)) ?_  -- outright.go:105
                  refine qi_gq rfl rfl rfl rfl (q_aeql rfl rfl (eqlP p q)) ?_  -- outright.go:105
                  refine qi_q rfl rfl (q_pick_f rfl rfl) ?_  -- outright.go:105
                  refine qi_q rfl rfl (q_assign rfl) ?_  -- outright.go:105
                  refine qi_nil ?_
                  refine tail_nil (by kernel_rfl) ?_
                  refine at_then ?_
                  refine cw_region ?_
                  refine steps_q rfl (q_move rfl) ?_  -- outright.go:104
                  refine steps_q rfl (q_bin rfl rfl (add64 (by omega) (by omega))) ?_  -- outright.go:104
                  refine steps_q rfl (q_assign rfl) ?_  -- outright.go:104
                  refine steps_nil ?_
                  exact at_round (j + 1, decide (p = q)) ⟨by dsimp only; omega, fun h => ⟨p, List.mem_of_getElem? hp, by rw [of_decide_eq_true h]; exact List.mem_of_getElem? hq⟩⟩ (by dsimp only; omega) (subs ⟨rfl, rfl, rfl, rfl, rfl, by dsimp only; rw [show ((j + 1 : Nat) : Int) = j + 1 by omega]; rfl, trivial⟩) (subs trivial)
                · -- way 26.b
                  refine cw_draw mixed [0, 1, 2, 3, 4, 5, 6, 7, 8, 9, 10, 11, 12] 0 _ (by kernel_rfl) (SubL.refl _) ?_
                  refine qi_q rfl rfl (q_move rfl) ?_  -- outright.go:105
                  refine qi_q rfl rfl (q_move rfl) ?_  -- outright.go:105
                  refine qi_gn rfl rfl rfl rfl rfl ?_  -- outright.go:105
                  refine qi_gn rfl rfl rfl rfl rfl ?_  -- outright.go:105
                  refine qi_gn rfl rfl rfl rfl rfl ?_  -- outright.go:105
                  refine qi_gn rfl rfl rfl rfl rfl ?_  -- outright.go:105
                  refine qi_gn rfl rfl rfl rfl rfl ?_  -- outright.go:105
                  refine qi_gn rfl rfl rfl rfl rfl ?_  -- outright.go:105
                  refine qi_gn rfl rfl rfl rfl rfl ?_  -- outright.go:105
                  refine qi_gn rfl rfl rfl rfl rfl ?_  -- outright.go:105
                  refine qi_gn rfl rfl rfl rfl rfl ?_  -- outright.go:105
                  refine qi_q rfl rfl (q_pick_t rfl rfl) ?_  -- outright.go:105
                  refine qi_q rfl rfl (q_assign rfl) ?_  -- outright.go:105
                  refine qi_nil ?_
                  refine tail_nil (by kernel_rfl) ?_
                  refine at_then ?_
                  refine cw_region ?_
                  refine steps_q rfl (q_move rfl) ?_  -- outright.go:104
                  refine steps_q rfl (q_bin rfl rfl (add64 (by omega) (by omega))) ?_  -- outright.go:104
                  refine steps_q rfl (q_assign rfl) ?_  -- outright.go:104
                  refine steps_nil ?_
                  exact at_round (j + 1, true) ⟨by dsimp only; omega, hth⟩ (by dsimp only; omega) (subs ⟨rfl, rfl, rfl, rfl, rfl, by dsimp only; rw [show ((j + 1 : Nat) : Int) = j + 1 by omega]; rfl, trivial⟩) (subs trivial)
              · -- no 7
                refine cw_exit ?_
                refine at_then ?_
                refine cw_region ?_
                refine steps_q rfl (q_move rfl) ?_  -- outright.go:103
                refine steps_q rfl (q_bin rfl rfl (add64 (by omega) (by omega))) ?_  -- outright.go:103
                refine steps_q rfl (q_assign rfl) ?_  -- outright.go:103
                refine steps_nil ?_
                exact at_round (i + 1, t) ⟨by dsimp only; omega, hth⟩ (by dsimp only; omega) (subs ⟨rfl, rfl, rfl, rfl, by dsimp only; rw [show ((i + 1 : Nat) : Int) = i + 1 by omega]; rfl, trivial⟩) (subs trivial)
            · -- no 6
              refine cw_exit ?_
              refine at_then ?_
              refine cw_sr ?_
              refine steps_q rfl (q_move rfl) ?_  -- outright.go:108
              refine steps_s (s_callSt ent19 rfl rfl rfl (R := BO a) (fun w' hw => by simpa using bound_Of w' (SlAt.st hu0 hw) (by omega) (hA.mono (by decide)).ok la) fun v Ln hZ => ?_)  -- outright.go:108
              obtain ⟨ba, ba1, ba2, ba3, ba4, rfl, rfl⟩ := hZ
              refine steps_q rfl (q_move rfl) ?_  -- outright.go:108
              refine steps_q rfl (q_extract rfl rfl) ?_  -- outright.go:108
              refine steps_q rfl (q_extract rfl rfl) ?_  -- outright.go:108
              refine steps_s (s_allocA 23 rfl zer53 fun b23 => ?_)  -- outright.go:108
              refine steps_s (s_storeW 23 siz53 rfl rfl rfl rfl rfl rfl ?_)  -- outright.go:108
              refine steps_q rfl (q_assign rfl) ?_  -- outright.go:108
              refine steps_nil ?_
              refine cw_sr ?_
              refine steps_q rfl (q_move rfl) ?_  -- outright.go:109
              refine steps_s (s_callSt ent19 rfl rfl rfl (R := BO b) (fun w' hw => by simpa using bound_Of w' (SlAt.st hv0 hw) (by omega) (hB.mono (by decide)).ok lb) fun v Ln hZ => ?_)  -- outright.go:109
              obtain ⟨bb, bb1, bb2, bb3, bb4, rfl, rfl⟩ := hZ
              refine steps_q rfl (q_move rfl) ?_  -- outright.go:109
              refine steps_q rfl (q_extract rfl rfl) ?_  -- outright.go:109
              refine steps_q rfl (q_extract rfl rfl) ?_  -- outright.go:109
              refine steps_s (s_allocA 25 rfl zer53 fun b25 => ?_)  -- outright.go:109
              refine steps_s (s_storeW 25 siz53 rfl rfl rfl rfl rfl rfl ?_)  -- outright.go:109
              refine steps_q rfl (q_assign rfl) ?_  -- outright.go:109
              refine steps_nil ?_
              have hsm : s = true → (nrOf (sel (dif a b) own1)).n = ⟨0, 0, 0⟩ := fun h => by obtain ⟨p, h1, h2⟩ := hsh h; exact shared_meets hE1 h1 h2
              have hmm : (nrOf (sel (dif a b) own1)).n = ⟨0, 0, 0⟩ → okB ⟨ptMax ba.low bb.low, ptMin ba.high bb.high⟩ := fun h => okB_of (minmax_in' ba1 bb1) (minmax_in ba2 bb2) (bounds_meet hE1 h ba3 bb3 ba4 bb4)
              have hways : (s = false ∧ ¬ (nrOf (sel (dif a b) own1)).n = ⟨0, 0, 0⟩) ∨ (s = false ∧ (nrOf (sel (dif a b) own1)).n = ⟨0, 0, 0⟩) ∨ (s = true ∧ (nrOf (sel (dif a b) own1)).n = ⟨0, 0, 0⟩) := by
                cases s
                · by_cases h : (nrOf (sel (dif a b) own1)).n = ⟨0, 0, 0⟩
                  · exact .inr (.inl ⟨rfl, h⟩)
                  · exact .inl ⟨rfl, h⟩
                · exact .inr (.inr ⟨rfl, hsm rfl⟩)
              rcases hways with ⟨rfl, h0⟩ | ⟨rfl, h0⟩ | ⟨rfl, h0⟩
              · -- way 29.a
                rw [decide_eq_false h0]
                refine cw_sr ?_
                refine steps_q rfl (q_move rfl) ?_  -- outright.go:110
                refine steps_q rfl (q_bin rfl rfl (eql_t rfl)) ?_  -- outright.go:110
                refine steps_q rfl (q_move rfl) ?_  -- outright.go:110
                refine steps_gq rfl rfl rfl (q_move rfl) ?_  -- outright.go:110
                refine steps_gq rfl rfl rfl (q_bin rfl rfl (eql_t rfl)) ?_  -- outright.go:110
                refine steps_q rfl (q_pick_t rfl rfl) ?_  -- outright.go:110
                refine steps_q rfl (q_move rfl) ?_  -- outright.go:110
                refine steps_gq rfl rfl rfl (q_move rfl) ?_  -- outright.go:110
                refine steps_gq rfl rfl rfl (q_not rfl rfl) ?_  -- outright.go:110
                refine steps_gq rfl rfl rfl (q_move rfl) ?_  -- outright.go:110
                refine steps_gn rfl rfl rfl rfl ?_  -- outright.go:110
                refine steps_gq rfl rfl rfl (q_pick_t rfl rfl) ?_  -- outright.go:110
                refine steps_q rfl (q_pick_t rfl rfl) ?_  -- outright.go:110
                refine steps_q rfl (q_move rfl) ?_  -- outright.go:110
                refine steps_gq rfl rfl rfl (q_move rfl) ?_  -- outright.go:110
                refine steps_gq rfl rfl rfl (q_not rfl rfl) ?_  -- outright.go:110
                refine steps_gq rfl rfl rfl (q_move rfl) ?_  -- outright.go:110
                refine steps_gn rfl rfl rfl rfl ?_  -- outright.go:110
                refine steps_gn rfl rfl rfl rfl ?_  -- outright.go:110
                refine steps_gn rfl rfl rfl rfl ?_  -- outright.go:110
                refine steps_gq rfl rfl rfl (q_pick_t rfl rfl) ?_  -- outright.go:110
                refine steps_q rfl (q_pick_t rfl rfl) ?_  -- outright.go:110
                refine steps_q rfl (q_move rfl) ?_  -- outright.go:110
                refine steps_gq rfl rfl rfl (q_pure ent6 rfl law_awake) ?_  -- outright.go:110
                refine steps_q rfl (q_pick_t rfl rfl) ?_  -- outright.go:110
                refine steps_q rfl (q_assign rfl) ?_  -- outright.go:110
                refine steps_nil ?_
                refine cw_ret ?_
                exact ret_pure rfl (rv_tmp rfl rv_nil) rfl
              · -- way 29.b
                rw [decide_eq_true h0]
                refine cw_sr ?_
                refine steps_q rfl (q_move rfl) ?_  -- outright.go:110
                refine steps_q rfl (q_bin rfl rfl (eql_t rfl)) ?_  -- outright.go:110
                refine steps_q rfl (q_move rfl) ?_  -- outright.go:110
                refine steps_gq rfl rfl rfl (q_move rfl) ?_  -- outright.go:110
                refine steps_gq rfl rfl rfl (q_bin rfl rfl (eql_t rfl)) ?_  -- outright.go:110
                refine steps_q rfl (q_pick_t rfl rfl) ?_  -- outright.go:110
                refine steps_q rfl (q_move rfl) ?_  -- outright.go:110
                refine steps_gq rfl rfl rfl (q_move rfl) ?_  -- outright.go:110
                refine steps_gq rfl rfl rfl (q_not rfl rfl) ?_  -- outright.go:110
                refine steps_gq rfl rfl rfl (q_move rfl) ?_  -- outright.go:110
                refine steps_gn rfl rfl rfl rfl ?_  -- outright.go:110
                refine steps_gq rfl rfl rfl (q_pick_t rfl rfl) ?_  -- outright.go:110
                refine steps_q rfl (q_pick_t rfl rfl) ?_  -- outright.go:110
                refine steps_q rfl (q_move rfl) ?_  -- outright.go:110
                refine steps_gq rfl rfl rfl (q_move rfl) ?_  -- outright.go:110
                refine steps_gq rfl rfl rfl (q_not rfl rfl) ?_  -- outright.go:110
                refine steps_gq rfl rfl rfl (q_move rfl) ?_  -- outright.go:110
                refine steps_gq rfl rfl rfl (q_loadW 23 agg53 rfl rfl rfl) ?_  -- outright.go:110
                refine steps_gq rfl rfl rfl (q_loadW 25 agg53 rfl rfl rfl) ?_  -- outright.go:110
                refine steps_gq rfl rfl rfl (q_pure ent20 rfl (bound_Meet (okB_of ba1 ba2 ba3) (okB_of bb1 bb2 bb3) (hmm h0))) ?_  -- outright.go:110
                refine steps_gq rfl rfl rfl (q_pick_f rfl rfl) ?_  -- outright.go:110
                refine steps_q rfl (q_pick_t rfl rfl) ?_  -- outright.go:110
                refine steps_q rfl (q_move rfl) ?_  -- outright.go:110
                refine steps_gq rfl rfl rfl (q_pure ent6 rfl law_awake) ?_  -- outright.go:110
                refine steps_q rfl (q_pick_t rfl rfl) ?_  -- outright.go:110
                refine steps_q rfl (q_assign rfl) ?_  -- outright.go:110
                refine steps_nil ?_
                refine cw_ret ?_
                exact ret_pure rfl (rv_tmp rfl rv_nil) rfl
              · -- way 29.c
                rw [decide_eq_true h0]
                refine cw_sr ?_
                refine steps_q rfl (q_move rfl) ?_  -- outright.go:110
                refine steps_q rfl (q_bin rfl rfl (eql_t rfl)) ?_  -- outright.go:110
                refine steps_q rfl (q_move rfl) ?_  -- outright.go:110
                refine steps_gq rfl rfl rfl (q_move rfl) ?_  -- outright.go:110
                refine steps_gq rfl rfl rfl (q_bin rfl rfl (eql_t rfl)) ?_  -- outright.go:110
                refine steps_q rfl (q_pick_t rfl rfl) ?_  -- outright.go:110
                refine steps_q rfl (q_move rfl) ?_  -- outright.go:110
                refine steps_gq rfl rfl rfl (q_move rfl) ?_  -- outright.go:110
                refine steps_gq rfl rfl rfl (q_not rfl rfl) ?_  -- outright.go:110
                refine steps_gq rfl rfl rfl (q_move rfl) ?_  -- outright.go:110
                refine steps_gq rfl rfl rfl (q_move rfl) ?_  -- outright.go:110
                refine steps_gq rfl rfl rfl (q_pick_f rfl rfl) ?_  -- outright.go:110
                refine steps_q rfl (q_pick_t rfl rfl) ?_  -- outright.go:110
                refine steps_q rfl (q_move rfl) ?_  -- outright.go:110
                refine steps_gq rfl rfl rfl (q_move rfl) ?_  -- outright.go:110
                refine steps_gq rfl rfl rfl (q_not rfl rfl) ?_  -- outright.go:110
                refine steps_gq rfl rfl rfl (q_move rfl) ?_  -- outright.go:110
                refine steps_gq rfl rfl rfl (q_loadW 23 agg53 rfl rfl rfl) ?_  -- outright.go:110
                refine steps_gq rfl rfl rfl (q_loadW 25 agg53 rfl rfl rfl) ?_  -- outright.go:110
                refine steps_gq rfl rfl rfl (q_pure ent20 rfl (bound_Meet (okB_of ba1 ba2 ba3) (okB_of bb1 bb2 bb3) (hmm h0))) ?_  -- outright.go:110
                refine steps_gq rfl rfl rfl (q_pick_f rfl rfl) ?_  -- outright.go:110
                refine steps_q rfl (q_pick_t rfl rfl) ?_  -- outright.go:110
                refine steps_q rfl (q_move rfl) ?_  -- outright.go:110
                refine steps_gq rfl rfl rfl (q_pure ent6 rfl law_awake) ?_  -- outright.go:110
                refine steps_q rfl (q_pick_t rfl rfl) ?_  -- outright.go:110
                refine steps_q rfl (q_assign rfl) ?_  -- outright.go:110
                refine steps_nil ?_
                refine cw_ret ?_
                exact ret_pure rfl (rv_tmp rfl rv_nil) rfl

theorem law_GjkBoth {a b : List Pt} {u v : Value} {by' : Pt} (w : World) (hu : PtsAt w u a) (hv : PtsAt w v b) (hla : a.length ≤ 9223372036854775807) (hlb : b.length ≤ 9223372036854775807) :
    Calls Tryz.prog 5 #[u, v, .agg by'.l.toArray] w fun e w' => e = .returned (.bool true) ∧ Below w.heap.size w w' := by
  by_cases ha : a.length ≤ 60
  · by_cases hb : b.length ≤ 60
    · by_cases hab : a.length * b.length ≤ 60
      · by_cases hby : by'.In 268435456
        · by_cases hA : small 67108864 a
          · by_cases hA0 : a = []
            · by_cases hB : small 67108864 b
              · by_cases hB0 : b = []
                · exact both_nil_nil w hu hv hla hlb ha hb hab hby hA hA0 hB hB0
                · exact both_nil_cons w hu hv hla hlb ha hb hab hby hA hA0 hB hB0
              · exact both_nil_bad w hu hv hla hlb ha hb hab hby hA hA0 hB
            · by_cases hB : small 67108864 b
              · by_cases hB0 : b = []
                · exact both_cons_nil w hu hv hla hlb ha hb hab hby hA hA0 hB hB0
                · exact both_cons_cons w hu hv hla hlb ha hb hab hby hA hA0 hB hB0
              · exact both_cons_bad w hu hv hla hlb ha hb hab hby hA hA0 hB
          · by_cases hB : small 67108864 b
            · by_cases hB0 : b = []
              · exact both_bad_nil w hu hv hla hlb ha hb hab hby hA hB hB0
              · exact both_bad_cons w hu hv hla hlb ha hb hab hby hA hB hB0
            · exact both_bad_bad w hu hv hla hlb ha hb hab hby hA hB
        · exact both_d w hu hv hla hlb ha hb hab hby
      · exact both_c w hu hv hla hlb ha hb hab
    · exact both_b w hu hv hla hlb ha hb
  · exact both_a w hu hv hla hlb ha
end Go.Proofs.YtomdahjakkifbaaGreat

/-
  The nearest of the differences, the other way round, is the opposite point, moving both lists alike changes nothing, lists that have one point meet, and those whose bounds do not meet do not: GjkBoth answers true and leaves its arguments alone.
  No condition: every input.
-/
namespace Go.Proofs.YtomdahjakkifbaaGreat
open Go Go.NP Go.RowKit Go.Proofs Go.ChangeShapes Go.WideShapes Go.ChangeAt
set_option maxRecDepth 100000

theorem gjkBoth_lifted (os : Os) (started : os.Started) (H : Type) (enc : TypeId × Value → H) :
    ReturnsInHanded {} Tryz.checked os 5 .any (Rows.gjkBothSpec.pre6 enc Tryz.prog Tryz.f5 Rows.gjkBothRow.domain false) (Rows.gjkBothSpec.post enc Tryz.prog Tryz.f5 false true false false) := by
  refine returnsInHanded_of_change (C := Tryz.checked) Tryz.own started (by kernel_rfl) Tryz.func5
    (ChangeSpec.witness6 (enc := enc) (C := Tryz.checked) false ⟨#[], #[.slice none 0 0, .slice none 0 0, .agg #[.int .i64 0, .int .i64 0, .int .i64 0]], []⟩ 8 (by kernel_rfl) (by kernel_rfl) (by kernel_rfl) (by kernel_rfl)) ?_
  intro W base args ds gs before hval0 hW hcnd _
  have hval : ∀ (j : Nat) t v, Tryz.f5.params[j]? = some t → args[j]? = some v → Value.okWide Tryz.prog W .any base t v := hval0
  have hW' := hW
  obtain ⟨p, q, hA0, hV, rfl, hfz, hnd⟩ := hW
  have hA : DataW.TrodAll enc Tryz.prog W 0 (fun _ => true) true Tryz.f5.params.toList args.toList ds p := hA0
  have hAk := hA
  rw [Tryz.params5] at hA hval
  obtain ⟨v0, v1, v2, d0, d1, d2, p0, p1, p2, rfl, rfl, rfl, h0, h1, h2⟩ := trodAll_three hA
  obtain ⟨a, ha, hla⟩ := open_pts (okWide_slice Tryz.underlying22 (hval 0 22 v0 rfl rfl)) h0
  obtain ⟨b, hb, hlb⟩ := open_pts (okWide_slice Tryz.underlying22 (hval 1 22 v1 rfl rfl)) h1
  obtain ⟨cs, rfl, _⟩ := okWide_struct Tryz.underlying47 (hval 2 47 v2 rfl rfl)
  obtain ⟨fuel, h2⟩ := h2
  obtain ⟨pt, hpt, _⟩ := open_pt h2
  obtain rfl : cs = pt.l.toArray := by
    apply Array.ext'
    simpa [Value.cells] using hpt
  obtain ⟨rfl, rfl⟩ := trodVars_none hV
  clear hA0 hval0
  simp only [List.append_nil] at hW'
  refine (law_GjkBoth W ha hb hla hlb).mono fun e W' ⟨he, hw⟩ => ?_
  subst he
  exact ⟨_, rfl, law_post (tb := 4) Tryz.laidOut rfl Tryz.underlying4 (by kernel_rfl) hW' hAk (by rw [Tryz.params5]; intro t ht; simp at ht; (first | subst ht | (rcases ht with ht | ht <;> subst ht) | (rcases ht with ht | ht | ht <;> subst ht)) <;> exact ⟨by kernel_rfl, of_decide_eq_true (by kernel_rfl)⟩) rfl hw⟩

theorem gjkBoth_holds : Rows.GjkBothSaid :=
  OpenClaim.holds_of_wide 5 Tryz.f5 rfl rfl rfl rfl rfl rfl rfl ⟨rfl, rfl, rfl, rfl, rfl⟩ rfl rfl rfl rfl rfl (by kernel_rfl) Tryz.func5 (by kernel_rfl)
    (of_decide_eq_true (by kernel_rfl)) (by unfold Func.isWrapper; first | (rw [if_pos (by decide +kernel)]; kernel_rfl) | (rw [if_neg (by decide +kernel)]; exact ⟨rfl, rfl⟩))
    (fun os started H enc _ => gjkBoth_lifted os started H enc)
end Go.Proofs.YtomdahjakkifbaaGreat
