/-
  With a point more that is not past it the nearest one is the same, and with one that is past it there is a nearer one: GjkMore answers true and leaves its arguments alone.
  No condition: every input.
-/
import Derived.Test.YtomdahjakkifbaaPg

/-
  The walk of simplex.Cmp.
-/
namespace Go.Proofs.Ytomdahjakkifbaa
open Go Go.NP Go.RowKit Go.Proofs
set_option maxRecDepth 100000

set_option maxHeartbeats 4000000 in
theorem simplex_Cmp {a b : Nr} (ha : a.n.In Mid) (hb : b.n.In Mid) (da : 0 < a.d ∧ a.d ≤ Mid) (db : 0 < b.d ∧ b.d ≤ Mid) : PureF Try.prog 15 [.agg a.l.toArray, .agg b.l.toArray] (.int .i64 (nearI a b)) := by
  have sa := sq_in ha
  have sb := sq_in hb
  have ea := d_in da.1 da.2
  have eb := d_in db.1 db.2
  have fa : Fits a.d := fits_big (by have h := da; unfold Mid at h; unfold Big; omega)
  have fb : Fits b.d := fits_big (by have h := db; unfold Mid at h; unfold Big; omega)
  refine pure_of Try.func15 rfl Try.ntmps15 rfl fun w => ?_
  refine cw_sr ?_
  refine steps_s (s_boxA 2 rfl rfl fun b2 => ?_)  -- simplex.go:148
  refine steps_s (s_boxA 3 rfl rfl fun b3 => ?_)  -- simplex.go:148
  refine steps_q rfl (q_assign rfl) ?_  -- simplex.go:148
  refine steps_nil ?_
  refine cw_join (S := Nat × Nat × Nat × Nat) (fun (b5, b6, b7, b8) => [(5, .pointer (some ⟨b5, 0, none⟩)), (6, .pointer (some ⟨b6, 0, none⟩)), (7, .pointer (some ⟨b7, 0, none⟩)), (8, .pointer (some ⟨b8, 0, none⟩))]) (fun (b5, b6, b7, b8) => [(5, (b5, .cells (Wl (sqS a.n)).toArray 26 (0, 0))), (6, (b6, .cells (Wl (sqS b.n)).toArray 26 (0, 0))), (7, (b7, .cells (Wl (a.d * a.d)).toArray 26 (0, 0))), (8, (b8, .cells (Wl (b.d * b.d)).toArray 26 (0, 0)))]) (fun (b5, b6, b7, b8) => True) ?_ ?_
  · -- the orders of region 1
    refine cw_draw mixed [0, 1, 2, 3, 4, 5, 6, 7, 8, 9, 10, 11, 12, 13, 14, 15] 8 (without _ [5, 6, 7, 8]) (by kernel_rfl) (sub_without _ _) ?_
    refine qi_q rfl rfl (q_field fld31_0 rfl) ?_  -- simplex.go:149
    refine qi_q rfl rfl (q_loadA 2 agg28 rfl rfl (nr0 a)) ?_  -- simplex.go:149
    refine qi_q rfl rfl (q_pure ent23 rfl (simplex_square ha)) ?_  -- simplex.go:149
    refine qi_q rfl rfl (q_field fld31_0 rfl) ?_  -- simplex.go:149
    refine qi_q rfl rfl (q_loadA 3 agg28 rfl rfl (nr0 b)) ?_  -- simplex.go:149
    refine qi_q rfl rfl (q_pure ent23 rfl (simplex_square hb)) ?_  -- simplex.go:149
    refine qi_q rfl rfl (q_field fld31_1 rfl) ?_  -- simplex.go:149
    refine qi_q rfl rfl (q_loadA 2 agg26 rfl rfl (nr1 a)) ?_  -- simplex.go:149
    refine qi_q rfl rfl (q_field fld31_1 rfl) ?_  -- simplex.go:149
    refine qi_q rfl rfl (q_loadA 2 agg26 rfl rfl (nr1 a)) ?_  -- simplex.go:149
    refine qi_q rfl rfl (q_pure ent22 rfl (simplex_times fa fa (fits_pos (by omega) ea.2))) ?_  -- simplex.go:149
    refine qi_q rfl rfl (q_field fld31_1 rfl) ?_  -- simplex.go:149
    refine qi_q rfl rfl (q_loadA 3 agg26 rfl rfl (nr1 b)) ?_  -- simplex.go:149
    refine qi_q rfl rfl (q_field fld31_1 rfl) ?_  -- simplex.go:149
    refine qi_q rfl rfl (q_loadA 3 agg26 rfl rfl (nr1 b)) ?_  -- simplex.go:149
    refine qi_q rfl rfl (q_pure ent22 rfl (simplex_times fb fb (fits_pos (by omega) eb.2))) ?_  -- simplex.go:149
    refine qi_nil ?_
    refine tail_cons [16, 17, 18, 19] (by kernel_rfl) ⟨⟨_, rfl, rfl, ?_⟩, ⟨_, rfl, rfl, ?_⟩, ⟨_, rfl, rfl, ?_⟩, ⟨_, rfl, rfl, ?_⟩, trivial⟩
    · refine s_allocA 5 rfl zer26 fun b5 => ⟨(subl_cons rfl (sub_without _ _)), ?_⟩
      refine tail_cons [17, 18, 19] (by kernel_rfl) ⟨⟨_, rfl, rfl, ?_⟩, ⟨_, rfl, rfl, ?_⟩, ⟨_, rfl, rfl, ?_⟩, trivial⟩
      · refine s_allocA 6 rfl zer26 fun b6 => ⟨(subl_cons rfl (subl_cons rfl (sub_without _ _))), ?_⟩
        refine tail_alloc2 18 19 (by kernel_rfl) rfl rfl zer26 rfl zer26 rfl (subl_cons rfl (subl_cons rfl (sub_without _ _))) rfl rfl (fun h => At.weaken h) fun b7 b8 => ?_
        refine tail_one 20 (by kernel_rfl) rfl rfl (s_storeW 5 siz26 rfl rfl rfl rfl rfl rfl ⟨(subl_cons rfl (subl_cons rfl (subl_cons rfl (subl_cons rfl (subl_cons rfl (sub_without _ _)))))), ?_⟩)  -- simplex.go:149
        refine tail_one 21 (by kernel_rfl) rfl rfl (s_storeW 6 siz26 rfl rfl rfl rfl rfl rfl ⟨(subl_cons rfl (subl_cons rfl (subl_cons rfl (subl_cons rfl (subl_cons rfl (subl_cons rfl (sub_without _ _))))))), ?_⟩)  -- simplex.go:149
        refine tail_one 22 (by kernel_rfl) rfl rfl (s_storeW 7 siz26 rfl rfl rfl rfl rfl rfl ⟨(subl_cons rfl (subl_cons rfl (subl_cons rfl (subl_cons rfl (subl_cons rfl (subl_cons rfl (subl_cons rfl (sub_without _ _)))))))), ?_⟩)  -- simplex.go:149
        refine tail_one 23 (by kernel_rfl) rfl rfl (s_storeW 8 siz26 rfl rfl rfl rfl rfl rfl ⟨(subl_cons rfl (subl_cons rfl (subl_cons rfl (subl_cons rfl (subl_cons rfl (subl_cons rfl (subl_cons rfl (subl_cons rfl (sub_without _ _))))))))), ?_⟩)  -- simplex.go:149
        refine tail_nil (by kernel_rfl) ?_
        exact at_join (b5, b6, b7, b8) (trivial) (subs ⟨rfl, rfl, rfl, rfl, trivial⟩) (subs ⟨rfl, rfl, rfl, rfl, trivial⟩)
      · refine s_allocA 7 rfl zer26 fun b7 => ⟨(subl_cons rfl (subl_cons rfl (sub_without _ _))), ?_⟩
        refine tail_alloc2 17 19 (by kernel_rfl) rfl rfl zer26 rfl zer26 rfl (subl_cons rfl (subl_cons rfl (sub_without _ _))) rfl rfl (fun h => At.weaken h) fun b6 b8 => ?_
        refine tail_one 20 (by kernel_rfl) rfl rfl (s_storeW 5 siz26 rfl rfl rfl rfl rfl rfl ⟨(subl_cons rfl (subl_cons rfl (subl_cons rfl (subl_cons rfl (subl_cons rfl (sub_without _ _)))))), ?_⟩)  -- simplex.go:149
        refine tail_one 21 (by kernel_rfl) rfl rfl (s_storeW 6 siz26 rfl rfl rfl rfl rfl rfl ⟨(subl_cons rfl (subl_cons rfl (subl_cons rfl (subl_cons rfl (subl_cons rfl (subl_cons rfl (sub_without _ _))))))), ?_⟩)  -- simplex.go:149
        refine tail_one 22 (by kernel_rfl) rfl rfl (s_storeW 7 siz26 rfl rfl rfl rfl rfl rfl ⟨(subl_cons rfl (subl_cons rfl (subl_cons rfl (subl_cons rfl (subl_cons rfl (subl_cons rfl (subl_cons rfl (sub_without _ _)))))))), ?_⟩)  -- simplex.go:149
        refine tail_one 23 (by kernel_rfl) rfl rfl (s_storeW 8 siz26 rfl rfl rfl rfl rfl rfl ⟨(subl_cons rfl (subl_cons rfl (subl_cons rfl (subl_cons rfl (subl_cons rfl (subl_cons rfl (subl_cons rfl (subl_cons rfl (sub_without _ _))))))))), ?_⟩)  -- simplex.go:149
        refine tail_nil (by kernel_rfl) ?_
        exact at_join (b5, b6, b7, b8) (trivial) (subs ⟨rfl, rfl, rfl, rfl, trivial⟩) (subs ⟨rfl, rfl, rfl, rfl, trivial⟩)
      · refine s_allocA 8 rfl zer26 fun b8 => ⟨(subl_cons rfl (subl_cons rfl (sub_without _ _))), ?_⟩
        refine tail_alloc2 17 18 (by kernel_rfl) rfl rfl zer26 rfl zer26 rfl (subl_cons rfl (subl_cons rfl (sub_without _ _))) rfl rfl (fun h => At.weaken h) fun b6 b7 => ?_
        refine tail_one 20 (by kernel_rfl) rfl rfl (s_storeW 5 siz26 rfl rfl rfl rfl rfl rfl ⟨(subl_cons rfl (subl_cons rfl (subl_cons rfl (subl_cons rfl (subl_cons rfl (sub_without _ _)))))), ?_⟩)  -- simplex.go:149
        refine tail_one 21 (by kernel_rfl) rfl rfl (s_storeW 6 siz26 rfl rfl rfl rfl rfl rfl ⟨(subl_cons rfl (subl_cons rfl (subl_cons rfl (subl_cons rfl (subl_cons rfl (subl_cons rfl (sub_without _ _))))))), ?_⟩)  -- simplex.go:149
        refine tail_one 22 (by kernel_rfl) rfl rfl (s_storeW 7 siz26 rfl rfl rfl rfl rfl rfl ⟨(subl_cons rfl (subl_cons rfl (subl_cons rfl (subl_cons rfl (subl_cons rfl (subl_cons rfl (subl_cons rfl (sub_without _ _)))))))), ?_⟩)  -- simplex.go:149
        refine tail_one 23 (by kernel_rfl) rfl rfl (s_storeW 8 siz26 rfl rfl rfl rfl rfl rfl ⟨(subl_cons rfl (subl_cons rfl (subl_cons rfl (subl_cons rfl (subl_cons rfl (subl_cons rfl (subl_cons rfl (subl_cons rfl (sub_without _ _))))))))), ?_⟩)  -- simplex.go:149
        refine tail_nil (by kernel_rfl) ?_
        exact at_join (b5, b6, b7, b8) (trivial) (subs ⟨rfl, rfl, rfl, rfl, trivial⟩) (subs ⟨rfl, rfl, rfl, rfl, trivial⟩)
    · refine s_allocA 6 rfl zer26 fun b6 => ⟨(subl_cons rfl (sub_without _ _)), ?_⟩
      refine tail_cons [16, 18, 19] (by kernel_rfl) ⟨⟨_, rfl, rfl, ?_⟩, ⟨_, rfl, rfl, ?_⟩, ⟨_, rfl, rfl, ?_⟩, trivial⟩
      · refine s_allocA 5 rfl zer26 fun b5 => ⟨(subl_cons rfl (subl_cons rfl (sub_without _ _))), ?_⟩
        refine tail_alloc2 18 19 (by kernel_rfl) rfl rfl zer26 rfl zer26 rfl (subl_cons rfl (subl_cons rfl (sub_without _ _))) rfl rfl (fun h => At.weaken h) fun b7 b8 => ?_
        refine tail_one 20 (by kernel_rfl) rfl rfl (s_storeW 5 siz26 rfl rfl rfl rfl rfl rfl ⟨(subl_cons rfl (subl_cons rfl (subl_cons rfl (subl_cons rfl (subl_cons rfl (sub_without _ _)))))), ?_⟩)  -- simplex.go:149
        refine tail_one 21 (by kernel_rfl) rfl rfl (s_storeW 6 siz26 rfl rfl rfl rfl rfl rfl ⟨(subl_cons rfl (subl_cons rfl (subl_cons rfl (subl_cons rfl (subl_cons rfl (subl_cons rfl (sub_without _ _))))))), ?_⟩)  -- simplex.go:149
        refine tail_one 22 (by kernel_rfl) rfl rfl (s_storeW 7 siz26 rfl rfl rfl rfl rfl rfl ⟨(subl_cons rfl (subl_cons rfl (subl_cons rfl (subl_cons rfl (subl_cons rfl (subl_cons rfl (subl_cons rfl (sub_without _ _)))))))), ?_⟩)  -- simplex.go:149
        refine tail_one 23 (by kernel_rfl) rfl rfl (s_storeW 8 siz26 rfl rfl rfl rfl rfl rfl ⟨(subl_cons rfl (subl_cons rfl (subl_cons rfl (subl_cons rfl (subl_cons rfl (subl_cons rfl (subl_cons rfl (subl_cons rfl (sub_without _ _))))))))), ?_⟩)  -- simplex.go:149
        refine tail_nil (by kernel_rfl) ?_
        exact at_join (b5, b6, b7, b8) (trivial) (subs ⟨rfl, rfl, rfl, rfl, trivial⟩) (subs ⟨rfl, rfl, rfl, rfl, trivial⟩)
      · refine s_allocA 7 rfl zer26 fun b7 => ⟨(subl_cons rfl (subl_cons rfl (sub_without _ _))), ?_⟩
        refine tail_alloc2 16 19 (by kernel_rfl) rfl rfl zer26 rfl zer26 rfl (subl_cons rfl (subl_cons rfl (sub_without _ _))) rfl rfl (fun h => At.weaken h) fun b5 b8 => ?_
        refine tail_one 20 (by kernel_rfl) rfl rfl (s_storeW 5 siz26 rfl rfl rfl rfl rfl rfl ⟨(subl_cons rfl (subl_cons rfl (subl_cons rfl (subl_cons rfl (subl_cons rfl (sub_without _ _)))))), ?_⟩)  -- simplex.go:149
        refine tail_one 21 (by kernel_rfl) rfl rfl (s_storeW 6 siz26 rfl rfl rfl rfl rfl rfl ⟨(subl_cons rfl (subl_cons rfl (subl_cons rfl (subl_cons rfl (subl_cons rfl (subl_cons rfl (sub_without _ _))))))), ?_⟩)  -- simplex.go:149
        refine tail_one 22 (by kernel_rfl) rfl rfl (s_storeW 7 siz26 rfl rfl rfl rfl rfl rfl ⟨(subl_cons rfl (subl_cons rfl (subl_cons rfl (subl_cons rfl (subl_cons rfl (subl_cons rfl (subl_cons rfl (sub_without _ _)))))))), ?_⟩)  -- simplex.go:149
        refine tail_one 23 (by kernel_rfl) rfl rfl (s_storeW 8 siz26 rfl rfl rfl rfl rfl rfl ⟨(subl_cons rfl (subl_cons rfl (subl_cons rfl (subl_cons rfl (subl_cons rfl (subl_cons rfl (subl_cons rfl (subl_cons rfl (sub_without _ _))))))))), ?_⟩)  -- simplex.go:149
        refine tail_nil (by kernel_rfl) ?_
        exact at_join (b5, b6, b7, b8) (trivial) (subs ⟨rfl, rfl, rfl, rfl, trivial⟩) (subs ⟨rfl, rfl, rfl, rfl, trivial⟩)
      · refine s_allocA 8 rfl zer26 fun b8 => ⟨(subl_cons rfl (subl_cons rfl (sub_without _ _))), ?_⟩
        refine tail_alloc2 16 18 (by kernel_rfl) rfl rfl zer26 rfl zer26 rfl (subl_cons rfl (subl_cons rfl (sub_without _ _))) rfl rfl (fun h => At.weaken h) fun b5 b7 => ?_
        refine tail_one 20 (by kernel_rfl) rfl rfl (s_storeW 5 siz26 rfl rfl rfl rfl rfl rfl ⟨(subl_cons rfl (subl_cons rfl (subl_cons rfl (subl_cons rfl (subl_cons rfl (sub_without _ _)))))), ?_⟩)  -- simplex.go:149
        refine tail_one 21 (by kernel_rfl) rfl rfl (s_storeW 6 siz26 rfl rfl rfl rfl rfl rfl ⟨(subl_cons rfl (subl_cons rfl (subl_cons rfl (subl_cons rfl (subl_cons rfl (subl_cons rfl (sub_without _ _))))))), ?_⟩)  -- simplex.go:149
        refine tail_one 22 (by kernel_rfl) rfl rfl (s_storeW 7 siz26 rfl rfl rfl rfl rfl rfl ⟨(subl_cons rfl (subl_cons rfl (subl_cons rfl (subl_cons rfl (subl_cons rfl (subl_cons rfl (subl_cons rfl (sub_without _ _)))))))), ?_⟩)  -- simplex.go:149
        refine tail_one 23 (by kernel_rfl) rfl rfl (s_storeW 8 siz26 rfl rfl rfl rfl rfl rfl ⟨(subl_cons rfl (subl_cons rfl (subl_cons rfl (subl_cons rfl (subl_cons rfl (subl_cons rfl (subl_cons rfl (subl_cons rfl (sub_without _ _))))))))), ?_⟩)  -- simplex.go:149
        refine tail_nil (by kernel_rfl) ?_
        exact at_join (b5, b6, b7, b8) (trivial) (subs ⟨rfl, rfl, rfl, rfl, trivial⟩) (subs ⟨rfl, rfl, rfl, rfl, trivial⟩)
    · refine s_allocA 7 rfl zer26 fun b7 => ⟨(subl_cons rfl (sub_without _ _)), ?_⟩
      refine tail_cons [16, 17, 19] (by kernel_rfl) ⟨⟨_, rfl, rfl, ?_⟩, ⟨_, rfl, rfl, ?_⟩, ⟨_, rfl, rfl, ?_⟩, trivial⟩
      · refine s_allocA 5 rfl zer26 fun b5 => ⟨(subl_cons rfl (subl_cons rfl (sub_without _ _))), ?_⟩
        refine tail_alloc2 17 19 (by kernel_rfl) rfl rfl zer26 rfl zer26 rfl (subl_cons rfl (subl_cons rfl (sub_without _ _))) rfl rfl (fun h => At.weaken h) fun b6 b8 => ?_
        refine tail_one 20 (by kernel_rfl) rfl rfl (s_storeW 5 siz26 rfl rfl rfl rfl rfl rfl ⟨(subl_cons rfl (subl_cons rfl (subl_cons rfl (subl_cons rfl (subl_cons rfl (sub_without _ _)))))), ?_⟩)  -- simplex.go:149
        refine tail_one 21 (by kernel_rfl) rfl rfl (s_storeW 6 siz26 rfl rfl rfl rfl rfl rfl ⟨(subl_cons rfl (subl_cons rfl (subl_cons rfl (subl_cons rfl (subl_cons rfl (subl_cons rfl (sub_without _ _))))))), ?_⟩)  -- simplex.go:149
        refine tail_one 22 (by kernel_rfl) rfl rfl (s_storeW 7 siz26 rfl rfl rfl rfl rfl rfl ⟨(subl_cons rfl (subl_cons rfl (subl_cons rfl (subl_cons rfl (subl_cons rfl (subl_cons rfl (subl_cons rfl (sub_without _ _)))))))), ?_⟩)  -- simplex.go:149
        refine tail_one 23 (by kernel_rfl) rfl rfl (s_storeW 8 siz26 rfl rfl rfl rfl rfl rfl ⟨(subl_cons rfl (subl_cons rfl (subl_cons rfl (subl_cons rfl (subl_cons rfl (subl_cons rfl (subl_cons rfl (subl_cons rfl (sub_without _ _))))))))), ?_⟩)  -- simplex.go:149
        refine tail_nil (by kernel_rfl) ?_
        exact at_join (b5, b6, b7, b8) (trivial) (subs ⟨rfl, rfl, rfl, rfl, trivial⟩) (subs ⟨rfl, rfl, rfl, rfl, trivial⟩)
      · refine s_allocA 6 rfl zer26 fun b6 => ⟨(subl_cons rfl (subl_cons rfl (sub_without _ _))), ?_⟩
        refine tail_alloc2 16 19 (by kernel_rfl) rfl rfl zer26 rfl zer26 rfl (subl_cons rfl (subl_cons rfl (sub_without _ _))) rfl rfl (fun h => At.weaken h) fun b5 b8 => ?_
        refine tail_one 20 (by kernel_rfl) rfl rfl (s_storeW 5 siz26 rfl rfl rfl rfl rfl rfl ⟨(subl_cons rfl (subl_cons rfl (subl_cons rfl (subl_cons rfl (subl_cons rfl (sub_without _ _)))))), ?_⟩)  -- simplex.go:149
        refine tail_one 21 (by kernel_rfl) rfl rfl (s_storeW 6 siz26 rfl rfl rfl rfl rfl rfl ⟨(subl_cons rfl (subl_cons rfl (subl_cons rfl (subl_cons rfl (subl_cons rfl (subl_cons rfl (sub_without _ _))))))), ?_⟩)  -- simplex.go:149
        refine tail_one 22 (by kernel_rfl) rfl rfl (s_storeW 7 siz26 rfl rfl rfl rfl rfl rfl ⟨(subl_cons rfl (subl_cons rfl (subl_cons rfl (subl_cons rfl (subl_cons rfl (subl_cons rfl (subl_cons rfl (sub_without _ _)))))))), ?_⟩)  -- simplex.go:149
        refine tail_one 23 (by kernel_rfl) rfl rfl (s_storeW 8 siz26 rfl rfl rfl rfl rfl rfl ⟨(subl_cons rfl (subl_cons rfl (subl_cons rfl (subl_cons rfl (subl_cons rfl (subl_cons rfl (subl_cons rfl (subl_cons rfl (sub_without _ _))))))))), ?_⟩)  -- simplex.go:149
        refine tail_nil (by kernel_rfl) ?_
        exact at_join (b5, b6, b7, b8) (trivial) (subs ⟨rfl, rfl, rfl, rfl, trivial⟩) (subs ⟨rfl, rfl, rfl, rfl, trivial⟩)
      · refine s_allocA 8 rfl zer26 fun b8 => ⟨(subl_cons rfl (subl_cons rfl (sub_without _ _))), ?_⟩
        refine tail_alloc2 16 17 (by kernel_rfl) rfl rfl zer26 rfl zer26 rfl (subl_cons rfl (subl_cons rfl (sub_without _ _))) rfl rfl (fun h => At.weaken h) fun b5 b6 => ?_
        refine tail_one 20 (by kernel_rfl) rfl rfl (s_storeW 5 siz26 rfl rfl rfl rfl rfl rfl ⟨(subl_cons rfl (subl_cons rfl (subl_cons rfl (subl_cons rfl (subl_cons rfl (sub_without _ _)))))), ?_⟩)  -- simplex.go:149
        refine tail_one 21 (by kernel_rfl) rfl rfl (s_storeW 6 siz26 rfl rfl rfl rfl rfl rfl ⟨(subl_cons rfl (subl_cons rfl (subl_cons rfl (subl_cons rfl (subl_cons rfl (subl_cons rfl (sub_without _ _))))))), ?_⟩)  -- simplex.go:149
        refine tail_one 22 (by kernel_rfl) rfl rfl (s_storeW 7 siz26 rfl rfl rfl rfl rfl rfl ⟨(subl_cons rfl (subl_cons rfl (subl_cons rfl (subl_cons rfl (subl_cons rfl (subl_cons rfl (subl_cons rfl (sub_without _ _)))))))), ?_⟩)  -- simplex.go:149
        refine tail_one 23 (by kernel_rfl) rfl rfl (s_storeW 8 siz26 rfl rfl rfl rfl rfl rfl ⟨(subl_cons rfl (subl_cons rfl (subl_cons rfl (subl_cons rfl (subl_cons rfl (subl_cons rfl (subl_cons rfl (subl_cons rfl (sub_without _ _))))))))), ?_⟩)  -- simplex.go:149
        refine tail_nil (by kernel_rfl) ?_
        exact at_join (b5, b6, b7, b8) (trivial) (subs ⟨rfl, rfl, rfl, rfl, trivial⟩) (subs ⟨rfl, rfl, rfl, rfl, trivial⟩)
    · refine s_allocA 8 rfl zer26 fun b8 => ⟨(subl_cons rfl (sub_without _ _)), ?_⟩
      refine tail_cons [16, 17, 18] (by kernel_rfl) ⟨⟨_, rfl, rfl, ?_⟩, ⟨_, rfl, rfl, ?_⟩, ⟨_, rfl, rfl, ?_⟩, trivial⟩
      · refine s_allocA 5 rfl zer26 fun b5 => ⟨(subl_cons rfl (subl_cons rfl (sub_without _ _))), ?_⟩
        refine tail_alloc2 17 18 (by kernel_rfl) rfl rfl zer26 rfl zer26 rfl (subl_cons rfl (subl_cons rfl (sub_without _ _))) rfl rfl (fun h => At.weaken h) fun b6 b7 => ?_
        refine tail_one 20 (by kernel_rfl) rfl rfl (s_storeW 5 siz26 rfl rfl rfl rfl rfl rfl ⟨(subl_cons rfl (subl_cons rfl (subl_cons rfl (subl_cons rfl (subl_cons rfl (sub_without _ _)))))), ?_⟩)  -- simplex.go:149
        refine tail_one 21 (by kernel_rfl) rfl rfl (s_storeW 6 siz26 rfl rfl rfl rfl rfl rfl ⟨(subl_cons rfl (subl_cons rfl (subl_cons rfl (subl_cons rfl (subl_cons rfl (subl_cons rfl (sub_without _ _))))))), ?_⟩)  -- simplex.go:149
        refine tail_one 22 (by kernel_rfl) rfl rfl (s_storeW 7 siz26 rfl rfl rfl rfl rfl rfl ⟨(subl_cons rfl (subl_cons rfl (subl_cons rfl (subl_cons rfl (subl_cons rfl (subl_cons rfl (subl_cons rfl (sub_without _ _)))))))), ?_⟩)  -- simplex.go:149
        refine tail_one 23 (by kernel_rfl) rfl rfl (s_storeW 8 siz26 rfl rfl rfl rfl rfl rfl ⟨(subl_cons rfl (subl_cons rfl (subl_cons rfl (subl_cons rfl (subl_cons rfl (subl_cons rfl (subl_cons rfl (subl_cons rfl (sub_without _ _))))))))), ?_⟩)  -- simplex.go:149
        refine tail_nil (by kernel_rfl) ?_
        exact at_join (b5, b6, b7, b8) (trivial) (subs ⟨rfl, rfl, rfl, rfl, trivial⟩) (subs ⟨rfl, rfl, rfl, rfl, trivial⟩)
      · refine s_allocA 6 rfl zer26 fun b6 => ⟨(subl_cons rfl (subl_cons rfl (sub_without _ _))), ?_⟩
        refine tail_alloc2 16 18 (by kernel_rfl) rfl rfl zer26 rfl zer26 rfl (subl_cons rfl (subl_cons rfl (sub_without _ _))) rfl rfl (fun h => At.weaken h) fun b5 b7 => ?_
        refine tail_one 20 (by kernel_rfl) rfl rfl (s_storeW 5 siz26 rfl rfl rfl rfl rfl rfl ⟨(subl_cons rfl (subl_cons rfl (subl_cons rfl (subl_cons rfl (subl_cons rfl (sub_without _ _)))))), ?_⟩)  -- simplex.go:149
        refine tail_one 21 (by kernel_rfl) rfl rfl (s_storeW 6 siz26 rfl rfl rfl rfl rfl rfl ⟨(subl_cons rfl (subl_cons rfl (subl_cons rfl (subl_cons rfl (subl_cons rfl (subl_cons rfl (sub_without _ _))))))), ?_⟩)  -- simplex.go:149
        refine tail_one 22 (by kernel_rfl) rfl rfl (s_storeW 7 siz26 rfl rfl rfl rfl rfl rfl ⟨(subl_cons rfl (subl_cons rfl (subl_cons rfl (subl_cons rfl (subl_cons rfl (subl_cons rfl (subl_cons rfl (sub_without _ _)))))))), ?_⟩)  -- simplex.go:149
        refine tail_one 23 (by kernel_rfl) rfl rfl (s_storeW 8 siz26 rfl rfl rfl rfl rfl rfl ⟨(subl_cons rfl (subl_cons rfl (subl_cons rfl (subl_cons rfl (subl_cons rfl (subl_cons rfl (subl_cons rfl (subl_cons rfl (sub_without _ _))))))))), ?_⟩)  -- simplex.go:149
        refine tail_nil (by kernel_rfl) ?_
        exact at_join (b5, b6, b7, b8) (trivial) (subs ⟨rfl, rfl, rfl, rfl, trivial⟩) (subs ⟨rfl, rfl, rfl, rfl, trivial⟩)
      · refine s_allocA 7 rfl zer26 fun b7 => ⟨(subl_cons rfl (subl_cons rfl (sub_without _ _))), ?_⟩
        refine tail_alloc2 16 17 (by kernel_rfl) rfl rfl zer26 rfl zer26 rfl (subl_cons rfl (subl_cons rfl (sub_without _ _))) rfl rfl (fun h => At.weaken h) fun b5 b6 => ?_
        refine tail_one 20 (by kernel_rfl) rfl rfl (s_storeW 5 siz26 rfl rfl rfl rfl rfl rfl ⟨(subl_cons rfl (subl_cons rfl (subl_cons rfl (subl_cons rfl (subl_cons rfl (sub_without _ _)))))), ?_⟩)  -- simplex.go:149
        refine tail_one 21 (by kernel_rfl) rfl rfl (s_storeW 6 siz26 rfl rfl rfl rfl rfl rfl ⟨(subl_cons rfl (subl_cons rfl (subl_cons rfl (subl_cons rfl (subl_cons rfl (subl_cons rfl (sub_without _ _))))))), ?_⟩)  -- simplex.go:149
        refine tail_one 22 (by kernel_rfl) rfl rfl (s_storeW 7 siz26 rfl rfl rfl rfl rfl rfl ⟨(subl_cons rfl (subl_cons rfl (subl_cons rfl (subl_cons rfl (subl_cons rfl (subl_cons rfl (subl_cons rfl (sub_without _ _)))))))), ?_⟩)  -- simplex.go:149
        refine tail_one 23 (by kernel_rfl) rfl rfl (s_storeW 8 siz26 rfl rfl rfl rfl rfl rfl ⟨(subl_cons rfl (subl_cons rfl (subl_cons rfl (subl_cons rfl (subl_cons rfl (subl_cons rfl (subl_cons rfl (subl_cons rfl (sub_without _ _))))))))), ?_⟩)  -- simplex.go:149
        refine tail_nil (by kernel_rfl) ?_
        exact at_join (b5, b6, b7, b8) (trivial) (subs ⟨rfl, rfl, rfl, rfl, trivial⟩) (subs ⟨rfl, rfl, rfl, rfl, trivial⟩)
  · -- behind region 1
    rintro ⟨b5, b6, b7, b8⟩ -
    conv => enter [7]; dsimp only
    conv => enter [8]; dsimp only
    refine cw_sr ?_
    refine steps_q rfl (q_assign rfl) ?_  -- simplex.go:150
    refine steps_nil ?_
    refine cw_block ?_
    -- LOOP 1 writes [9, 10, 11, 13, 14, 16, 17, 18, 35, 36, 37, 38, 39, 40, 41, 42, 43, 44, 45, 46, 47, 48, 49, 50, 51, 52, 53, 54, 55, 56, 57, 58, 59, 60, 61, 62, 63, 64, 65, 66, 67, 68, 69, 70, 71, 72, 73, 74, 75, 76, 77, 78, 79, 80]  stores via [5, 6, 7, 8, 10, 11, 13, 14]  reads [5, 6, 7, 8]
    refine cw_loop (S := Int × Int × Int × Int × Int) (fun s => [(5, .pointer (some ⟨b5, 0, none⟩)), (6, .pointer (some ⟨b6, 0, none⟩)), (7, .pointer (some ⟨b7, 0, none⟩)), (8, .pointer (some ⟨b8, 0, none⟩)), (9, .int .i64 s.2.2.2.2)]) (fun s => [(5, (b5, .cells (Wl s.1).toArray 26 (0, 0))), (6, (b6, .cells (Wl s.2.1).toArray 26 (0, 0))), (7, (b7, .cells (Wl s.2.2.1).toArray 26 (0, 0))), (8, (b8, .cells (Wl s.2.2.2.1).toArray 26 (0, 0)))]) (fun s => CmI (nearI a b) s.1 s.2.1 s.2.2.1 s.2.2.2.1 s.2.2.2.2) (fun s => s.2.2.1.toNat) (sqS a.n, sqS b.n, a.d * a.d, b.d * b.d, 1) ⟨sa.1, sa.2, sb.1, sb.2, ea.1, ea.2, eb.1, eb.2, .inl rfl, by rw [Int.one_mul]; rfl⟩ (subs ⟨rfl, rfl, rfl, rfl, rfl, trivial⟩) (subs ⟨rfl, rfl, rfl, rfl, trivial⟩) ?_
    rintro ⟨x, y, p, q, t⟩ hI
    dsimp only at hI
    conv => enter [7]; dsimp only
    conv => enter [8]; dsimp only
    obtain ⟨x0, x1, y0, y1, p0, p1, q0, q1, t1, hg⟩ := hI
    have fx := fits_pos x0 x1
    have fy := fits_pos y0 y1
    have fp := fits_pos (Int.le_of_lt p0) p1
    have fq := fits_pos (Int.le_of_lt q0) q1
    have r0 := Int.emod_nonneg x (by omega : p ≠ 0)
    have r1 := Int.emod_lt_of_pos x p0
    have s0 := Int.emod_nonneg y (by omega : q ≠ 0)
    have s1 := Int.emod_lt_of_pos y q0
    have hcc : ∀ u v : Int, cmp3 u v = 1 ∨ cmp3 u v = -1 ∨ cmp3 u v = 0 := fun u v => by unfold cmp3; split <;> (try split) <;> simp
    refine cw_seq ?_
    refine cw_block ?_
    refine cw_sr ?_
    refine steps_q rfl (q_loadW 5 agg26 rfl rfl rfl) ?_  -- simplex.go:151
    refine steps_q rfl (q_loadW 7 agg26 rfl rfl rfl) ?_  -- simplex.go:151
    refine steps_q rfl (q_pure ent27 rfl (wide_Div fx fp (by omega))) ?_  -- simplex.go:151
    refine steps_q rfl (q_move rfl) ?_  -- simplex.go:151
    refine steps_q rfl (q_extract rfl rfl) ?_  -- simplex.go:151
    refine steps_q rfl (q_extract rfl rfl) ?_  -- simplex.go:151
    refine steps_q rfl (q_extract rfl rfl) ?_  -- simplex.go:151
    refine steps_s (s_allocA 10 rfl zer26 fun b10 => ?_)  -- simplex.go:151
    refine steps_s (s_allocA 11 rfl zer26 fun b11 => ?_)  -- simplex.go:151
    refine steps_s (s_storeW 10 siz26 rfl rfl rfl rfl rfl rfl ?_)  -- simplex.go:151
    refine steps_s (s_storeW 11 siz26 rfl rfl rfl rfl rfl rfl ?_)  -- simplex.go:151
    refine steps_q rfl (q_assign rfl) ?_  -- simplex.go:151
    refine steps_nil ?_
    refine cw_sr ?_
    refine steps_q rfl (q_loadW 6 agg26 rfl rfl rfl) ?_  -- simplex.go:152
    refine steps_q rfl (q_loadW 8 agg26 rfl rfl rfl) ?_  -- simplex.go:152
    refine steps_q rfl (q_pure ent27 rfl (wide_Div fy fq (by omega))) ?_  -- simplex.go:152
    refine steps_q rfl (q_move rfl) ?_  -- simplex.go:152
    refine steps_q rfl (q_extract rfl rfl) ?_  -- simplex.go:152
    refine steps_q rfl (q_extract rfl rfl) ?_  -- simplex.go:152
    refine steps_q rfl (q_extract rfl rfl) ?_  -- simplex.go:152
    refine steps_s (s_allocA 13 rfl zer26 fun b13 => ?_)  -- simplex.go:152
    refine steps_s (s_allocA 14 rfl zer26 fun b14 => ?_)  -- simplex.go:152
    refine steps_s (s_storeW 13 siz26 rfl rfl rfl rfl rfl rfl ?_)  -- simplex.go:152
    refine steps_s (s_storeW 14 siz26 rfl rfl rfl rfl rfl rfl ?_)  -- simplex.go:152
    refine steps_q rfl (q_assign rfl) ?_  -- simplex.go:152
    refine steps_nil ?_
    refine cw_seq ?_
    refine cw_sr ?_
    refine steps_q rfl (q_loadW 10 agg26 rfl rfl rfl) ?_  -- simplex.go:153
    refine steps_q rfl (q_loadW 13 agg26 rfl rfl rfl) ?_  -- simplex.go:153
    refine steps_q rfl (q_pure ent21 rfl (wide_Cmp _ _ (div_fits fx (by omega)) (div_fits fy (by omega)))) ?_  -- simplex.go:153
    refine steps_q rfl (q_assign rfl) ?_  -- simplex.go:153
    refine steps_nil ?_
    refine cw_sr ?_
    refine steps_q rfl (q_move rfl) ?_  -- simplex.go:153
    refine steps_q rfl (q_bin rfl rfl rfl) ?_  -- simplex.go:153
    refine steps_nil ?_
    refine cw_cond _ rfl (fun hc1 => ?_) (fun hc1 => ?_)
    · -- yes 1
      have hne : cmpI (x / p) (y / q) ≠ 0 := by simpa using hc1
      have hw : x / p ≠ y / q := fun h => hne (cmp3_eq h)
      have he : cmpI (x / p) (y / q) * t = nearI a b := by rw [hg, frac_whole p0 q0 hw, Int.mul_comm]; rfl
      have hb3 : -1 ≤ cmpI (x / p) (y / q) * t ∧ cmpI (x / p) (y / q) * t ≤ 1 := by rcases t1 with rfl | rfl <;> rcases hcc (x / p) (y / q) with h | h | h <;> (rw [cmp3_I] at h; rw [h]; decide)
      refine cw_sr ?_
      refine steps_q rfl (q_move rfl) ?_  -- simplex.go:154
      refine steps_q rfl (q_move rfl) ?_  -- simplex.go:154
      refine steps_q rfl (q_bin rfl rfl (mul64 (by omega) (by omega))) ?_  -- simplex.go:154
      refine steps_q rfl (q_assign rfl) ?_  -- simplex.go:154
      refine steps_nil ?_
      refine cw_ret ?_
      rw [he]
      exact ret_pure rfl (rv_tmp rfl rv_nil) rfl
    · -- no 1
      have hw0 : cmpI (x / p) (y / q) = 0 := by simpa using hc1
      have hw : x / p = y / q := by
        rcases Int.lt_trichotomy (x / p) (y / q) with h | h | h
        · rw [← cmp3_I, cmp3_lt h] at hw0; omega
        · exact h
        · rw [← cmp3_I, cmp3_gt h] at hw0; omega
      rw [frac_rest hw] at hg
      have fr := mod_fits (a := x) fp (by omega)
      have fs := mod_fits (a := y) fq (by omega)
      refine cw_skip ?_
      refine at_then ?_
      rcases Decidable.em (x % p = 0) with hr | hr <;> rcases Decidable.em (y % q = 0) with hs | hs
      · -- way 9.a
        refine cw_sd mixed [0, 1, 2, 3, 4, 5, 6, 7] 0 _ (by kernel_rfl) (SubL.refl _) ?_
        refine qi_q rfl rfl (q_loadW 11 agg26 rfl rfl rfl) ?_  -- simplex.go:156
        refine qi_q rfl rfl (q_pure ent28 rfl (wide_Sign _ fr)) ?_  -- simplex.go:156
        refine qi_q rfl rfl (q_bin rfl rfl (sgn_is hr)) ?_  -- simplex.go:156
        refine qi_q rfl rfl (q_loadW 14 agg26 rfl rfl rfl) ?_  -- simplex.go:156
        refine qi_q rfl rfl (q_pure ent28 rfl (wide_Sign _ fs)) ?_  -- simplex.go:156
        refine qi_q rfl rfl (q_bin rfl rfl (sgn_is hs)) ?_  -- simplex.go:156
        refine qi_q rfl rfl (q_assign rfl) ?_  -- simplex.go:156
        refine qi_q rfl rfl (q_assign rfl) ?_  -- simplex.go:156
        refine qi_nil ?_
        refine tail_nil (by kernel_rfl) ?_
        refine cw_seq ?_
        refine cw_block ?_
        refine cw_sr ?_
        refine steps_q rfl (q_move rfl) ?_  -- simplex.go:158
        refine steps_q rfl (q_move rfl) ?_  -- simplex.go:158
        refine steps_gq rfl rfl rfl (q_move rfl) ?_  -- simplex.go:158
        refine steps_q rfl (q_pick_t rfl rfl) ?_  -- simplex.go:158
        refine steps_q rfl (q_assign rfl) ?_  -- simplex.go:158
        refine steps_nil ?_
        refine cw_cond _ rfl (fun hc2 => ?_) (fun hc2 => ?_)
        · -- yes 2
          refine cw_sr ?_
          refine steps_q rfl (q_assign rfl) ?_  -- simplex.go:159
          refine steps_nil ?_
          refine cw_ret ?_
          rw [show nearI a b = 0 by rw [hg, hr, hs, Int.zero_mul, Int.zero_mul, cmp3_eq rfl, Int.mul_zero]]
          exact ret_pure rfl (rv_tmp rfl rv_nil) rfl
        · cases hc2
      · -- way 9.b
        refine cw_sd mixed [0, 1, 2, 3, 4, 5, 6, 7] 0 _ (by kernel_rfl) (SubL.refl _) ?_
        refine qi_q rfl rfl (q_loadW 11 agg26 rfl rfl rfl) ?_  -- simplex.go:156
        refine qi_q rfl rfl (q_pure ent28 rfl (wide_Sign _ fr)) ?_  -- simplex.go:156
        refine qi_q rfl rfl (q_bin rfl rfl (sgn_is hr)) ?_  -- simplex.go:156
        refine qi_q rfl rfl (q_loadW 14 agg26 rfl rfl rfl) ?_  -- simplex.go:156
        refine qi_q rfl rfl (q_pure ent28 rfl (wide_Sign _ fs)) ?_  -- simplex.go:156
        refine qi_q rfl rfl (q_bin rfl rfl (sgn_isnt hs)) ?_  -- simplex.go:156
        refine qi_q rfl rfl (q_assign rfl) ?_  -- simplex.go:156
        refine qi_q rfl rfl (q_assign rfl) ?_  -- simplex.go:156
        refine qi_nil ?_
        refine tail_nil (by kernel_rfl) ?_
        refine cw_seq ?_
        refine cw_block ?_
        refine cw_sr ?_
        refine steps_q rfl (q_move rfl) ?_  -- simplex.go:158
        refine steps_q rfl (q_move rfl) ?_  -- simplex.go:158
        refine steps_gq rfl rfl rfl (q_move rfl) ?_  -- simplex.go:158
        refine steps_q rfl (q_pick_t rfl rfl) ?_  -- simplex.go:158
        refine steps_q rfl (q_assign rfl) ?_  -- simplex.go:158
        refine steps_nil ?_
        refine cw_cond _ rfl (fun hc2 => ?_) (fun hc2 => ?_)
        · cases hc2
        · -- no 2
          refine cw_sr ?_
          refine steps_q rfl (q_move rfl) ?_  -- simplex.go:160
          refine steps_q rfl (q_assign rfl) ?_  -- simplex.go:160
          refine steps_nil ?_
          refine cw_cond _ rfl (fun hc3 => ?_) (fun hc3 => ?_)
          · -- yes 3
            refine cw_sr ?_
            refine steps_q rfl (q_move rfl) ?_  -- simplex.go:161
            refine steps_q rfl (q_neg rfl (sub64 (by omega) (by omega))) ?_  -- simplex.go:161
            refine steps_q rfl (q_assign rfl) ?_  -- simplex.go:161
            refine steps_nil ?_
            refine cw_ret ?_
            rw [show nearI a b = 0 - t by rw [hg, hr, Int.zero_mul, cmp3_lt (Int.mul_pos (by omega) p0)]; omega]
            exact ret_pure rfl (rv_tmp rfl rv_nil) rfl
          · cases hc3
      · -- way 9.c
        refine cw_sd mixed [0, 1, 2, 3, 4, 5, 6, 7] 0 _ (by kernel_rfl) (SubL.refl _) ?_
        refine qi_q rfl rfl (q_loadW 11 agg26 rfl rfl rfl) ?_  -- simplex.go:156
        refine qi_q rfl rfl (q_pure ent28 rfl (wide_Sign _ fr)) ?_  -- simplex.go:156
        refine qi_q rfl rfl (q_bin rfl rfl (sgn_isnt hr)) ?_  -- simplex.go:156
        refine qi_q rfl rfl (q_loadW 14 agg26 rfl rfl rfl) ?_  -- simplex.go:156
        refine qi_q rfl rfl (q_pure ent28 rfl (wide_Sign _ fs)) ?_  -- simplex.go:156
        refine qi_q rfl rfl (q_bin rfl rfl (sgn_is hs)) ?_  -- simplex.go:156
        refine qi_q rfl rfl (q_assign rfl) ?_  -- simplex.go:156
        refine qi_q rfl rfl (q_assign rfl) ?_  -- simplex.go:156
        refine qi_nil ?_
        refine tail_nil (by kernel_rfl) ?_
        refine cw_seq ?_
        refine cw_block ?_
        refine cw_sr ?_
        refine steps_q rfl (q_move rfl) ?_  -- simplex.go:158
        refine steps_q rfl (q_move rfl) ?_  -- simplex.go:158
        refine steps_gn rfl rfl rfl rfl ?_  -- simplex.go:158
        refine steps_q rfl (q_pick_f rfl rfl) ?_  -- simplex.go:158
        refine steps_q rfl (q_assign rfl) ?_  -- simplex.go:158
        refine steps_nil ?_
        refine cw_cond _ rfl (fun hc2 => ?_) (fun hc2 => ?_)
        · cases hc2
        · -- no 2
          refine cw_sr ?_
          refine steps_q rfl (q_move rfl) ?_  -- simplex.go:160
          refine steps_q rfl (q_assign rfl) ?_  -- simplex.go:160
          refine steps_nil ?_
          refine cw_cond _ rfl (fun hc3 => ?_) (fun hc3 => ?_)
          · cases hc3
          · -- no 3
            refine cw_sr ?_
            refine steps_q rfl (q_move rfl) ?_  -- simplex.go:162
            refine steps_q rfl (q_assign rfl) ?_  -- simplex.go:162
            refine steps_nil ?_
            refine cw_cond _ rfl (fun hc4 => ?_) (fun hc4 => ?_)
            · -- yes 4
              refine cw_sr ?_
              refine steps_q rfl (q_move rfl) ?_  -- simplex.go:163
              refine steps_q rfl (q_assign rfl) ?_  -- simplex.go:163
              refine steps_nil ?_
              refine cw_ret ?_
              rw [show nearI a b = t by rw [hg, hs, Int.zero_mul, cmp3_gt (Int.mul_pos (by omega) q0)]; omega]
              exact ret_pure rfl (rv_tmp rfl rv_nil) rfl
            · cases hc4
      · -- way 9.d
        refine cw_sd mixed [0, 1, 2, 3, 4, 5, 6, 7] 0 _ (by kernel_rfl) (SubL.refl _) ?_
        refine qi_q rfl rfl (q_loadW 11 agg26 rfl rfl rfl) ?_  -- simplex.go:156
        refine qi_q rfl rfl (q_pure ent28 rfl (wide_Sign _ fr)) ?_  -- simplex.go:156
        refine qi_q rfl rfl (q_bin rfl rfl (sgn_isnt hr)) ?_  -- simplex.go:156
        refine qi_q rfl rfl (q_loadW 14 agg26 rfl rfl rfl) ?_  -- simplex.go:156
        refine qi_q rfl rfl (q_pure ent28 rfl (wide_Sign _ fs)) ?_  -- simplex.go:156
        refine qi_q rfl rfl (q_bin rfl rfl (sgn_isnt hs)) ?_  -- simplex.go:156
        refine qi_q rfl rfl (q_assign rfl) ?_  -- simplex.go:156
        refine qi_q rfl rfl (q_assign rfl) ?_  -- simplex.go:156
        refine qi_nil ?_
        refine tail_nil (by kernel_rfl) ?_
        refine cw_seq ?_
        refine cw_block ?_
        refine cw_sr ?_
        refine steps_q rfl (q_move rfl) ?_  -- simplex.go:158
        refine steps_q rfl (q_move rfl) ?_  -- simplex.go:158
        refine steps_gn rfl rfl rfl rfl ?_  -- simplex.go:158
        refine steps_q rfl (q_pick_f rfl rfl) ?_  -- simplex.go:158
        refine steps_q rfl (q_assign rfl) ?_  -- simplex.go:158
        refine steps_nil ?_
        refine cw_cond _ rfl (fun hc2 => ?_) (fun hc2 => ?_)
        · cases hc2
        · -- no 2
          refine cw_sr ?_
          refine steps_q rfl (q_move rfl) ?_  -- simplex.go:160
          refine steps_q rfl (q_assign rfl) ?_  -- simplex.go:160
          refine steps_nil ?_
          refine cw_cond _ rfl (fun hc3 => ?_) (fun hc3 => ?_)
          · cases hc3
          · -- no 3
            refine cw_sr ?_
            refine steps_q rfl (q_move rfl) ?_  -- simplex.go:162
            refine steps_q rfl (q_assign rfl) ?_  -- simplex.go:162
            refine steps_nil ?_
            refine cw_cond _ rfl (fun hc4 => ?_) (fun hc4 => ?_)
            · cases hc4
            · -- no 4
              refine cw_skip ?_
              refine at_then ?_
              refine cw_meet (fun _ => [(5, .pointer (some ⟨b5, 0, none⟩)), (6, .pointer (some ⟨b6, 0, none⟩)), (7, .pointer (some ⟨b7, 0, none⟩)), (8, .pointer (some ⟨b8, 0, none⟩)), (9, .int .i64 t)]) (fun _ => [(5, (b5, .cells (Wl p).toArray 26 (0, 0))), (6, (b6, .cells (Wl q).toArray 26 (0, 0))), (7, (b7, .cells (Wl (x % p)).toArray 26 (0, 0))), (8, (b8, .cells (Wl (y % q)).toArray 26 (0, 0)))]) ?_ ?_
              · -- the orders of region 16
                refine cw_draw mixed [1, 3] 6 (without _ [5, 6, 7, 8]) (by kernel_rfl) (sub_without _ _) ?_
                refine qi_q rfl rfl (q_loadW 11 agg26 rfl rfl rfl) ?_  -- simplex.go:165
                refine qi_q rfl rfl (q_loadW 14 agg26 rfl rfl rfl) ?_  -- simplex.go:165
                refine qi_nil ?_
                refine tail_cons [0, 2] (by kernel_rfl) ⟨⟨_, rfl, rfl, ?_⟩, ⟨_, rfl, rfl, ?_⟩, trivial⟩
                · refine (q_loadW 7 agg26 rfl rfl rfl).step rfl (by decide) ⟨(sub_without _ _), ?_⟩
                  refine tail_cons [2, 4] (by kernel_rfl) ⟨⟨_, rfl, rfl, ?_⟩, ⟨_, rfl, rfl, ?_⟩, trivial⟩
                  · refine (q_loadW 8 agg26 rfl rfl rfl).step rfl (by decide) ⟨(sub_without _ _), ?_⟩
                    refine tail_one 4 (by kernel_rfl) rfl rfl (s_storeW 5 siz26 rfl rfl rfl rfl rfl rfl ⟨(subl_cons rfl (sub_without _ _)), ?_⟩)  -- simplex.go:165
                    refine tail_one 5 (by kernel_rfl) rfl rfl (s_storeW 7 siz26 rfl rfl rfl rfl rfl rfl ⟨(subl_cons rfl (subl_cons rfl (sub_without _ _))), ?_⟩)  -- simplex.go:165
                    refine tail_one 6 (by kernel_rfl) rfl rfl (s_storeW 6 siz26 rfl rfl rfl rfl rfl rfl ⟨(subl_cons rfl (subl_cons rfl (subl_cons rfl (sub_without _ _)))), ?_⟩)  -- simplex.go:165
                    refine tail_one 7 (by kernel_rfl) rfl rfl (s_storeW 8 siz26 rfl rfl rfl rfl rfl rfl ⟨(subl_cons rfl (subl_cons rfl (subl_cons rfl (subl_cons rfl (sub_without _ _))))), ?_⟩)  -- simplex.go:165
                    refine tail_nil (by kernel_rfl) ?_
                    exact at_join () (trivial) (subs ⟨rfl, rfl, rfl, rfl, rfl, trivial⟩) (subs ⟨rfl, rfl, rfl, rfl, trivial⟩)
                  · refine s_storeW 5 siz26 rfl rfl rfl rfl rfl rfl ⟨(subl_cons rfl (sub_without _ _)), ?_⟩
                    refine tail_cons [2, 5] (by kernel_rfl) ⟨⟨_, rfl, rfl, ?_⟩, ⟨_, rfl, rfl, ?_⟩, trivial⟩
                    · refine (q_loadW 8 agg26 rfl rfl rfl).step rfl (by decide) ⟨(subl_cons rfl (sub_without _ _)), ?_⟩
                      refine tail_one 5 (by kernel_rfl) rfl rfl (s_storeW 7 siz26 rfl rfl rfl rfl rfl rfl ⟨(subl_cons rfl (subl_cons rfl (sub_without _ _))), ?_⟩)  -- simplex.go:165
                      refine tail_one 6 (by kernel_rfl) rfl rfl (s_storeW 6 siz26 rfl rfl rfl rfl rfl rfl ⟨(subl_cons rfl (subl_cons rfl (subl_cons rfl (sub_without _ _)))), ?_⟩)  -- simplex.go:165
                      refine tail_one 7 (by kernel_rfl) rfl rfl (s_storeW 8 siz26 rfl rfl rfl rfl rfl rfl ⟨(subl_cons rfl (subl_cons rfl (subl_cons rfl (subl_cons rfl (sub_without _ _))))), ?_⟩)  -- simplex.go:165
                      refine tail_nil (by kernel_rfl) ?_
                      exact at_join () (trivial) (subs ⟨rfl, rfl, rfl, rfl, rfl, trivial⟩) (subs ⟨rfl, rfl, rfl, rfl, trivial⟩)
                    · refine s_storeW 7 siz26 rfl rfl rfl rfl rfl rfl ⟨(subl_cons rfl (subl_cons rfl (sub_without _ _))), ?_⟩
                      refine tail_one 2 (by kernel_rfl) rfl rfl ((q_loadW 8 agg26 rfl rfl rfl).step rfl (by decide) ⟨(subl_cons rfl (subl_cons rfl (sub_without _ _))), ?_⟩)  -- simplex.go:165
                      refine tail_one 6 (by kernel_rfl) rfl rfl (s_storeW 6 siz26 rfl rfl rfl rfl rfl rfl ⟨(subl_cons rfl (subl_cons rfl (subl_cons rfl (sub_without _ _)))), ?_⟩)  -- simplex.go:165
                      refine tail_one 7 (by kernel_rfl) rfl rfl (s_storeW 8 siz26 rfl rfl rfl rfl rfl rfl ⟨(subl_cons rfl (subl_cons rfl (subl_cons rfl (subl_cons rfl (sub_without _ _))))), ?_⟩)  -- simplex.go:165
                      refine tail_nil (by kernel_rfl) ?_
                      exact at_join () (trivial) (subs ⟨rfl, rfl, rfl, rfl, rfl, trivial⟩) (subs ⟨rfl, rfl, rfl, rfl, trivial⟩)
                · refine (q_loadW 8 agg26 rfl rfl rfl).step rfl (by decide) ⟨(sub_without _ _), ?_⟩
                  refine tail_one 0 (by kernel_rfl) rfl rfl ((q_loadW 7 agg26 rfl rfl rfl).step rfl (by decide) ⟨(sub_without _ _), ?_⟩)  -- simplex.go:165
                  refine tail_one 4 (by kernel_rfl) rfl rfl (s_storeW 5 siz26 rfl rfl rfl rfl rfl rfl ⟨(subl_cons rfl (sub_without _ _)), ?_⟩)  -- simplex.go:165
                  refine tail_one 5 (by kernel_rfl) rfl rfl (s_storeW 7 siz26 rfl rfl rfl rfl rfl rfl ⟨(subl_cons rfl (subl_cons rfl (sub_without _ _))), ?_⟩)  -- simplex.go:165
                  refine tail_one 6 (by kernel_rfl) rfl rfl (s_storeW 6 siz26 rfl rfl rfl rfl rfl rfl ⟨(subl_cons rfl (subl_cons rfl (subl_cons rfl (sub_without _ _)))), ?_⟩)  -- simplex.go:165
                  refine tail_one 7 (by kernel_rfl) rfl rfl (s_storeW 8 siz26 rfl rfl rfl rfl rfl rfl ⟨(subl_cons rfl (subl_cons rfl (subl_cons rfl (subl_cons rfl (sub_without _ _))))), ?_⟩)  -- simplex.go:165
                  refine tail_nil (by kernel_rfl) ?_
                  exact at_join () (trivial) (subs ⟨rfl, rfl, rfl, rfl, rfl, trivial⟩) (subs ⟨rfl, rfl, rfl, rfl, trivial⟩)
              · -- behind region 16
                refine at_then ?_
                refine cw_region ?_
                refine steps_q rfl (q_move rfl) ?_  -- simplex.go:150
                refine steps_q rfl (q_neg rfl (sub64 (by omega) (by omega))) ?_  -- simplex.go:150
                refine steps_q rfl (q_assign rfl) ?_  -- simplex.go:150
                refine steps_nil ?_
                exact at_round (p, q, x % p, y % q, 0 - t) ⟨Int.le_of_lt p0, p1, Int.le_of_lt q0, q1, by dsimp only; omega, by dsimp only; omega, by dsimp only; omega, by dsimp only; omega, by dsimp only; omega, by dsimp only; rw [hg, cmp3_neg, Int.mul_comm p, Int.mul_comm q, Int.zero_sub, Int.mul_neg, Int.neg_mul]⟩ (by dsimp only; omega) (subs ⟨rfl, rfl, rfl, rfl, rfl, trivial⟩) (subs ⟨rfl, rfl, rfl, rfl, trivial⟩)
end Go.Proofs.Ytomdahjakkifbaa

/-
  The law GjkMore: its walk.
-/
namespace Go.Proofs.Ytomdahjakkifbaa
open Go Go.NP Go.RowKit Go.Proofs
set_option maxRecDepth 100000

set_option maxHeartbeats 8000000 in
theorem law_GjkMore {ps : List Pt} {p : Pt} {v : Value} (w : World) (hv : PtsAt w v ps) (hl : ps.length ≤ 9223372036854775807) :
    Calls Try.prog 5 #[v, .agg p.l.toArray] w fun e w' => e = .returned (.bool true) ∧ Below w.heap.size w w' := by
  have hv0 := hv
  obtain ⟨a, c0, rfl, hs⟩ := hv
  rw [List.length_map] at hv0 ⊢
  refine calls_of Try.func5 rfl Try.ntmps5 rfl (St.start w) (args := [.slice a ps.length c0, .agg p.l.toArray]) ?_
  by_cases he : errG ps = 0
  · obtain ⟨hok, l1, l256⟩ := errG_ok.1 he
    by_cases h40 : ps.length ≤ 40
    · by_cases hp : p.In 268435456
      · have hep : errP p = 0 := if_pos hp
        have hem := errG_more he h40 hp
        obtain ⟨bl, off, l, fz, rfl, hb, hpt⟩ := hs.resolve_left (by intro h; rw [List.map_eq_nil_iff] at h; subst h; simp at l1)
        have hblt : bl < w.heap.size := (Array.getElem?_eq_some_iff.1 hb).1
        refine cw_sr ?_
        refine steps_s (s_boxA 3 rfl rfl fun b3 => ?_)  -- more.go:11
        refine steps_q rfl (q_assign rfl) ?_  -- more.go:11
        refine steps_nil ?_
        refine cw_sr ?_
        refine steps_q rfl (q_move rfl) ?_  -- more.go:12
        refine steps_s (s_near he rfl rfl rfl (fun w' hw => SlAt.st hv0 hw) fun own g cur cap hE hsv => ?_)  -- more.go:12
        have hf := ends_fits hok hE
        refine steps_q rfl (q_move rfl) ?_  -- more.go:12
        refine steps_q rfl (q_extract rfl rfl) ?_  -- more.go:12
        refine steps_q rfl (q_extract rfl rfl) ?_  -- more.go:12
        refine steps_s (s_allocA 5 rfl zer31 fun b5 => ?_)  -- more.go:12
        refine steps_s (s_storeW 5 siz31 rfl rfl rfl rfl rfl rfl ?_)  -- more.go:12
        refine steps_q rfl (q_assign rfl) ?_  -- more.go:12
        refine steps_nil ?_
        refine cw_seq ?_
        refine cw_sr ?_
        refine steps_q rfl (q_move rfl) ?_  -- more.go:13
        refine steps_q rfl (q_bin rfl rfl (neq_f rfl)) ?_  -- more.go:13
        refine steps_q rfl (q_move rfl) ?_  -- more.go:13
        refine steps_gq rfl rfl rfl (q_move rfl) ?_  -- more.go:13
        refine steps_gq rfl rfl rfl (q_lenSl Try.underlying22 rfl) ?_  -- more.go:13
        refine steps_gq rfl rfl rfl (q_bin rfl rfl (gtr_f (by omega))) ?_  -- more.go:13
        refine steps_q rfl (q_pick_f rfl rfl) ?_  -- more.go:13
        refine steps_q rfl (q_move rfl) ?_  -- more.go:13
        refine steps_gq rfl rfl rfl (q_loadW 3 agg38 rfl rfl rfl) ?_  -- more.go:13
        refine steps_gq rfl rfl rfl (q_pure ent14 rfl (grid_Check p)) ?_  -- more.go:13
        refine steps_gq rfl rfl rfl (q_bin rfl rfl (neq_f hep)) ?_  -- more.go:13
        refine steps_q rfl (q_pick_f rfl rfl) ?_  -- more.go:13
        refine steps_nil ?_
        refine cw_cond _ rfl (fun hc1 => ?_) (fun hc1 => ?_)
        · cases hc1
        · -- no 1
          refine cw_skip ?_
          refine at_then ?_
          refine cw_join (S := List Int × Nat × Nat × Nat) (fun (own2, g4, cap4, b7) => [(3, .pointer (some ⟨b3, 0, none⟩)), (5, .pointer (some ⟨b5, 0, none⟩)), (7, .pointer (some ⟨b7, 0, none⟩)), (8, .int .i64 0)]) (fun (own2, g4, cap4, b7) => [(3, (b3, .cells p.l.toArray 38 (0, 0))), (5, (b5, .cells (Nr.l ⟨(nrOf (sel ps own)).n, (nrOf (sel ps own)).d, .slice (some ⟨g, 0, none⟩) own.length cap⟩).toArray 31 (0, 0))), (7, (b7, .cells (Nr.l ⟨(nrOf (sel (ps ++ [p]) own2)).n, (nrOf (sel (ps ++ [p]) own2)).d, .slice (some ⟨g4, 0, none⟩) own2.length cap4⟩).toArray 31 (0, 0)))]) (fun (own2, g4, cap4, b7) => Ends (ps ++ [p]) own2) ?_ ?_
          · -- the orders of region 4
            refine cw_draw mixed [1, 3] 11 (without _ [7, 32, 61, 63]) (by kernel_rfl) (sub_without _ _) ?_
            refine qi_q rfl rfl (q_move rfl) ?_  -- more.go:16
            refine qi_q rfl rfl (q_loadW 3 agg38 rfl rfl rfl) ?_  -- more.go:16
            refine qi_nil ?_
            refine tail_cons [0, 4, 10] (by kernel_rfl) ⟨⟨_, rfl, rfl, ?_⟩, ⟨_, rfl, rfl, ?_⟩, ⟨_, rfl, rfl, ?_⟩, trivial⟩
            · refine s_buildSl 61 (vs := []) rfl rfl rfl (l := []) (e := 38) (fun w => by kernel_rfl) fun b28 => ⟨(subl_cons rfl (sub_without _ _)), ?_⟩
              refine tail_cons [2, 4, 10] (by kernel_rfl) ⟨⟨_, rfl, rfl, ?_⟩, ⟨_, rfl, rfl, ?_⟩, ⟨_, rfl, rfl, ?_⟩, trivial⟩
              · refine s_appendM 61 (some (b28, [], 0)) 0 ps.length [] (ps.map Pt.l) rfl (List.length_map _) elt22 rfl rfl ⟨rfl, Nat.le_refl _, Nat.zero_le _, rfl, fun y hy => nomatch hy⟩ (subs ⟨rfl, trivial⟩) rfl (fun w' hw => ⟨l, fz, (hw.below.block bl hblt).trans hb, hpt⟩) (fun x hx => by obtain ⟨y, _, rfl⟩ := List.mem_map.1 hx; rfl) (by omega) (by unfold maxLen; omega) (by omega) fun g2 cur2 cap2 hk => ⟨(subl_cons rfl (subl_cons rfl (sub_without _ _))), ?_⟩
                refine tail_cons [4, 10] (by kernel_rfl) ⟨⟨_, rfl, rfl, ?_⟩, ⟨_, rfl, rfl, ?_⟩, trivial⟩
                · refine s_buildSl 32 rfl rfl rfl (bslP p) fun b32 => ⟨(subl_cons rfl (subl_cons rfl (subl_cons rfl (sub_without _ _)))), ?_⟩
                  refine tail_cons [5, 10] (by kernel_rfl) ⟨⟨_, rfl, rfl, ?_⟩, ⟨_, rfl, rfl, ?_⟩, trivial⟩
                  · refine s_appendN 61 32 (some (g2, cur2, cap2)) (0 + ps.length) ([] ++ ps.map Pt.l) p.l (by simp) elt22 rfl rfl hk (subs ⟨rfl, trivial⟩) rfl rfl rfl rfl (by omega) (by unfold maxLen; omega) fun g3 cur3 cap3 hk3 => ⟨(subl_cons rfl (subl_cons rfl (subl_cons rfl (subl_cons rfl (sub_without _ _))))), ?_⟩
                    refine tail_cons [6, 10] (by kernel_rfl) ⟨⟨_, rfl, rfl, ?_⟩, ⟨_, rfl, rfl, ?_⟩, trivial⟩
                    · refine s_near hem rfl rfl rfl (fun w' hw => told_more hw rfl hk3 (by omega)) fun own2 g4 cur4 cap4 hE2 hsv2 => ⟨(subl_cons rfl (subl_cons rfl (subl_cons rfl (subl_cons rfl (subl_cons rfl (sub_without _ _)))))), ?_⟩
                      refine tail_quiet 7 (by kernel_rfl) rfl rfl rfl (q_move rfl) ?_  -- more.go:16
                      refine tail_quiet 8 (by kernel_rfl) rfl rfl rfl (q_extract rfl rfl) ?_  -- more.go:16
                      refine tail_quiet 9 (by kernel_rfl) rfl rfl rfl (q_extract rfl rfl) ?_  -- more.go:16
                      refine tail_one 10 (by kernel_rfl) rfl rfl (s_allocA 7 rfl zer31 fun b7 => ⟨(subl_cons rfl (subl_cons rfl (subl_cons rfl (subl_cons rfl (subl_cons rfl (subl_cons rfl (sub_without _ _))))))), ?_⟩)  -- more.go:16
                      refine tail_one 11 (by kernel_rfl) rfl rfl (s_storeW 7 siz31 rfl rfl rfl rfl rfl rfl ⟨(subl_cons rfl (subl_cons rfl (subl_cons rfl (subl_cons rfl (subl_cons rfl (subl_cons rfl (subl_cons rfl (sub_without _ _)))))))), ?_⟩)  -- more.go:16
                      refine tail_quiet 12 (by kernel_rfl) rfl rfl rfl (q_assign rfl) ?_  -- more.go:16
                      refine tail_nil (by kernel_rfl) ?_
                      exact at_join (own2, g4, cap4, b7) (hE2) (subs ⟨rfl, rfl, rfl, rfl, trivial⟩) (subs ⟨rfl, rfl, rfl, trivial⟩)
                    · refine s_allocA 7 rfl zer31 fun b7 => ⟨(subl_cons rfl (subl_cons rfl (subl_cons rfl (subl_cons rfl (subl_cons rfl (sub_without _ _)))))), ?_⟩
                      refine tail_one 6 (by kernel_rfl) rfl rfl (s_near hem rfl rfl rfl (fun w' hw => told_more hw rfl hk3 (by omega)) fun own2 g4 cur4 cap4 hE2 hsv2 => ⟨(subl_cons rfl (subl_cons rfl (subl_cons rfl (subl_cons rfl (subl_cons rfl (subl_cons rfl (sub_without _ _))))))), ?_⟩)  -- more.go:16
                      refine tail_quiet 7 (by kernel_rfl) rfl rfl rfl (q_move rfl) ?_  -- more.go:16
                      refine tail_quiet 8 (by kernel_rfl) rfl rfl rfl (q_extract rfl rfl) ?_  -- more.go:16
                      refine tail_quiet 9 (by kernel_rfl) rfl rfl rfl (q_extract rfl rfl) ?_  -- more.go:16
                      refine tail_one 11 (by kernel_rfl) rfl rfl (s_storeW 7 siz31 rfl rfl rfl rfl rfl rfl ⟨(subl_cons rfl (subl_cons rfl (subl_cons rfl (subl_cons rfl (subl_cons rfl (subl_cons rfl (subl_cons rfl (sub_without _ _)))))))), ?_⟩)  -- more.go:16
                      refine tail_quiet 12 (by kernel_rfl) rfl rfl rfl (q_assign rfl) ?_  -- more.go:16
                      refine tail_nil (by kernel_rfl) ?_
                      exact at_join (own2, g4, cap4, b7) (hE2) (subs ⟨rfl, rfl, rfl, rfl, trivial⟩) (subs ⟨rfl, rfl, rfl, trivial⟩)
                  · refine s_allocA 7 rfl zer31 fun b7 => ⟨(subl_cons rfl (subl_cons rfl (subl_cons rfl (subl_cons rfl (sub_without _ _))))), ?_⟩
                    refine tail_one 5 (by kernel_rfl) rfl rfl (s_appendN 61 32 (some (g2, cur2, cap2)) (0 + ps.length) ([] ++ ps.map Pt.l) p.l (by simp) elt22 rfl rfl hk (subs ⟨rfl, trivial⟩) rfl rfl rfl rfl (by omega) (by unfold maxLen; omega) fun g3 cur3 cap3 hk3 => ⟨(subl_cons rfl (subl_cons rfl (subl_cons rfl (subl_cons rfl (subl_cons rfl (sub_without _ _)))))), ?_⟩)  -- more.go:16
                    refine tail_one 6 (by kernel_rfl) rfl rfl (s_near hem rfl rfl rfl (fun w' hw => told_more hw rfl hk3 (by omega)) fun own2 g4 cur4 cap4 hE2 hsv2 => ⟨(subl_cons rfl (subl_cons rfl (subl_cons rfl (subl_cons rfl (subl_cons rfl (subl_cons rfl (sub_without _ _))))))), ?_⟩)  -- more.go:16
                    refine tail_quiet 7 (by kernel_rfl) rfl rfl rfl (q_move rfl) ?_  -- more.go:16
                    refine tail_quiet 8 (by kernel_rfl) rfl rfl rfl (q_extract rfl rfl) ?_  -- more.go:16
                    refine tail_quiet 9 (by kernel_rfl) rfl rfl rfl (q_extract rfl rfl) ?_  -- more.go:16
                    refine tail_one 11 (by kernel_rfl) rfl rfl (s_storeW 7 siz31 rfl rfl rfl rfl rfl rfl ⟨(subl_cons rfl (subl_cons rfl (subl_cons rfl (subl_cons rfl (subl_cons rfl (subl_cons rfl (subl_cons rfl (sub_without _ _)))))))), ?_⟩)  -- more.go:16
                    refine tail_quiet 12 (by kernel_rfl) rfl rfl rfl (q_assign rfl) ?_  -- more.go:16
                    refine tail_nil (by kernel_rfl) ?_
                    exact at_join (own2, g4, cap4, b7) (hE2) (subs ⟨rfl, rfl, rfl, rfl, trivial⟩) (subs ⟨rfl, rfl, rfl, trivial⟩)
                · refine s_allocA 7 rfl zer31 fun b7 => ⟨(subl_cons rfl (subl_cons rfl (subl_cons rfl (sub_without _ _)))), ?_⟩
                  refine tail_one 4 (by kernel_rfl) rfl rfl (s_buildSl 32 rfl rfl rfl (bslP p) fun b32 => ⟨(subl_cons rfl (subl_cons rfl (subl_cons rfl (subl_cons rfl (sub_without _ _))))), ?_⟩)  -- more.go:16
                  refine tail_one 5 (by kernel_rfl) rfl rfl (s_appendN 61 32 (some (g2, cur2, cap2)) (0 + ps.length) ([] ++ ps.map Pt.l) p.l (by simp) elt22 rfl rfl hk (subs ⟨rfl, trivial⟩) rfl rfl rfl rfl (by omega) (by unfold maxLen; omega) fun g3 cur3 cap3 hk3 => ⟨(subl_cons rfl (subl_cons rfl (subl_cons rfl (subl_cons rfl (subl_cons rfl (sub_without _ _)))))), ?_⟩)  -- more.go:16
                  refine tail_one 6 (by kernel_rfl) rfl rfl (s_near hem rfl rfl rfl (fun w' hw => told_more hw rfl hk3 (by omega)) fun own2 g4 cur4 cap4 hE2 hsv2 => ⟨(subl_cons rfl (subl_cons rfl (subl_cons rfl (subl_cons rfl (subl_cons rfl (subl_cons rfl (sub_without _ _))))))), ?_⟩)  -- more.go:16
                  refine tail_quiet 7 (by kernel_rfl) rfl rfl rfl (q_move rfl) ?_  -- more.go:16
                  refine tail_quiet 8 (by kernel_rfl) rfl rfl rfl (q_extract rfl rfl) ?_  -- more.go:16
                  refine tail_quiet 9 (by kernel_rfl) rfl rfl rfl (q_extract rfl rfl) ?_  -- more.go:16
                  refine tail_one 11 (by kernel_rfl) rfl rfl (s_storeW 7 siz31 rfl rfl rfl rfl rfl rfl ⟨(subl_cons rfl (subl_cons rfl (subl_cons rfl (subl_cons rfl (subl_cons rfl (subl_cons rfl (subl_cons rfl (sub_without _ _)))))))), ?_⟩)  -- more.go:16
                  refine tail_quiet 12 (by kernel_rfl) rfl rfl rfl (q_assign rfl) ?_  -- more.go:16
                  refine tail_nil (by kernel_rfl) ?_
                  exact at_join (own2, g4, cap4, b7) (hE2) (subs ⟨rfl, rfl, rfl, rfl, trivial⟩) (subs ⟨rfl, rfl, rfl, trivial⟩)
              · refine s_buildSl 32 rfl rfl rfl (bslP p) fun b32 => ⟨(subl_cons rfl (subl_cons rfl (sub_without _ _))), ?_⟩
                refine tail_cons [2, 10] (by kernel_rfl) ⟨⟨_, rfl, rfl, ?_⟩, ⟨_, rfl, rfl, ?_⟩, trivial⟩
                · refine s_appendM 61 (some (b28, [], 0)) 0 ps.length [] (ps.map Pt.l) rfl (List.length_map _) elt22 rfl rfl ⟨rfl, Nat.le_refl _, Nat.zero_le _, rfl, fun y hy => nomatch hy⟩ (subs ⟨rfl, trivial⟩) rfl (fun w' hw => ⟨l, fz, (hw.below.block bl hblt).trans hb, hpt⟩) (fun x hx => by obtain ⟨y, _, rfl⟩ := List.mem_map.1 hx; rfl) (by omega) (by unfold maxLen; omega) (by omega) fun g2 cur2 cap2 hk => ⟨(subl_cons rfl (subl_cons rfl (subl_cons rfl (sub_without _ _)))), ?_⟩
                  refine tail_cons [5, 10] (by kernel_rfl) ⟨⟨_, rfl, rfl, ?_⟩, ⟨_, rfl, rfl, ?_⟩, trivial⟩
                  · refine s_appendN 61 32 (some (g2, cur2, cap2)) (0 + ps.length) ([] ++ ps.map Pt.l) p.l (by simp) elt22 rfl rfl hk (subs ⟨rfl, trivial⟩) rfl rfl rfl rfl (by omega) (by unfold maxLen; omega) fun g3 cur3 cap3 hk3 => ⟨(subl_cons rfl (subl_cons rfl (subl_cons rfl (subl_cons rfl (sub_without _ _))))), ?_⟩
                    refine tail_cons [6, 10] (by kernel_rfl) ⟨⟨_, rfl, rfl, ?_⟩, ⟨_, rfl, rfl, ?_⟩, trivial⟩
                    · refine s_near hem rfl rfl rfl (fun w' hw => told_more hw rfl hk3 (by omega)) fun own2 g4 cur4 cap4 hE2 hsv2 => ⟨(subl_cons rfl (subl_cons rfl (subl_cons rfl (subl_cons rfl (subl_cons rfl (sub_without _ _)))))), ?_⟩
                      refine tail_quiet 7 (by kernel_rfl) rfl rfl rfl (q_move rfl) ?_  -- more.go:16
                      refine tail_quiet 8 (by kernel_rfl) rfl rfl rfl (q_extract rfl rfl) ?_  -- more.go:16
                      refine tail_quiet 9 (by kernel_rfl) rfl rfl rfl (q_extract rfl rfl) ?_  -- more.go:16
                      refine tail_one 10 (by kernel_rfl) rfl rfl (s_allocA 7 rfl zer31 fun b7 => ⟨(subl_cons rfl (subl_cons rfl (subl_cons rfl (subl_cons rfl (subl_cons rfl (subl_cons rfl (sub_without _ _))))))), ?_⟩)  -- more.go:16
                      refine tail_one 11 (by kernel_rfl) rfl rfl (s_storeW 7 siz31 rfl rfl rfl rfl rfl rfl ⟨(subl_cons rfl (subl_cons rfl (subl_cons rfl (subl_cons rfl (subl_cons rfl (subl_cons rfl (subl_cons rfl (sub_without _ _)))))))), ?_⟩)  -- more.go:16
                      refine tail_quiet 12 (by kernel_rfl) rfl rfl rfl (q_assign rfl) ?_  -- more.go:16
                      refine tail_nil (by kernel_rfl) ?_
                      exact at_join (own2, g4, cap4, b7) (hE2) (subs ⟨rfl, rfl, rfl, rfl, trivial⟩) (subs ⟨rfl, rfl, rfl, trivial⟩)
                    · refine s_allocA 7 rfl zer31 fun b7 => ⟨(subl_cons rfl (subl_cons rfl (subl_cons rfl (subl_cons rfl (subl_cons rfl (sub_without _ _)))))), ?_⟩
                      refine tail_one 6 (by kernel_rfl) rfl rfl (s_near hem rfl rfl rfl (fun w' hw => told_more hw rfl hk3 (by omega)) fun own2 g4 cur4 cap4 hE2 hsv2 => ⟨(subl_cons rfl (subl_cons rfl (subl_cons rfl (subl_cons rfl (subl_cons rfl (subl_cons rfl (sub_without _ _))))))), ?_⟩)  -- more.go:16
                      refine tail_quiet 7 (by kernel_rfl) rfl rfl rfl (q_move rfl) ?_  -- more.go:16
                      refine tail_quiet 8 (by kernel_rfl) rfl rfl rfl (q_extract rfl rfl) ?_  -- more.go:16
                      refine tail_quiet 9 (by kernel_rfl) rfl rfl rfl (q_extract rfl rfl) ?_  -- more.go:16
                      refine tail_one 11 (by kernel_rfl) rfl rfl (s_storeW 7 siz31 rfl rfl rfl rfl rfl rfl ⟨(subl_cons rfl (subl_cons rfl (subl_cons rfl (subl_cons rfl (subl_cons rfl (subl_cons rfl (subl_cons rfl (sub_without _ _)))))))), ?_⟩)  -- more.go:16
                      refine tail_quiet 12 (by kernel_rfl) rfl rfl rfl (q_assign rfl) ?_  -- more.go:16
                      refine tail_nil (by kernel_rfl) ?_
                      exact at_join (own2, g4, cap4, b7) (hE2) (subs ⟨rfl, rfl, rfl, rfl, trivial⟩) (subs ⟨rfl, rfl, rfl, trivial⟩)
                  · refine s_allocA 7 rfl zer31 fun b7 => ⟨(subl_cons rfl (subl_cons rfl (subl_cons rfl (subl_cons rfl (sub_without _ _))))), ?_⟩
                    refine tail_one 5 (by kernel_rfl) rfl rfl (s_appendN 61 32 (some (g2, cur2, cap2)) (0 + ps.length) ([] ++ ps.map Pt.l) p.l (by simp) elt22 rfl rfl hk (subs ⟨rfl, trivial⟩) rfl rfl rfl rfl (by omega) (by unfold maxLen; omega) fun g3 cur3 cap3 hk3 => ⟨(subl_cons rfl (subl_cons rfl (subl_cons rfl (subl_cons rfl (subl_cons rfl (sub_without _ _)))))), ?_⟩)  -- more.go:16
                    refine tail_one 6 (by kernel_rfl) rfl rfl (s_near hem rfl rfl rfl (fun w' hw => told_more hw rfl hk3 (by omega)) fun own2 g4 cur4 cap4 hE2 hsv2 => ⟨(subl_cons rfl (subl_cons rfl (subl_cons rfl (subl_cons rfl (subl_cons rfl (subl_cons rfl (sub_without _ _))))))), ?_⟩)  -- more.go:16
                    refine tail_quiet 7 (by kernel_rfl) rfl rfl rfl (q_move rfl) ?_  -- more.go:16
                    refine tail_quiet 8 (by kernel_rfl) rfl rfl rfl (q_extract rfl rfl) ?_  -- more.go:16
                    refine tail_quiet 9 (by kernel_rfl) rfl rfl rfl (q_extract rfl rfl) ?_  -- more.go:16
                    refine tail_one 11 (by kernel_rfl) rfl rfl (s_storeW 7 siz31 rfl rfl rfl rfl rfl rfl ⟨(subl_cons rfl (subl_cons rfl (subl_cons rfl (subl_cons rfl (subl_cons rfl (subl_cons rfl (subl_cons rfl (sub_without _ _)))))))), ?_⟩)  -- more.go:16
                    refine tail_quiet 12 (by kernel_rfl) rfl rfl rfl (q_assign rfl) ?_  -- more.go:16
                    refine tail_nil (by kernel_rfl) ?_
                    exact at_join (own2, g4, cap4, b7) (hE2) (subs ⟨rfl, rfl, rfl, rfl, trivial⟩) (subs ⟨rfl, rfl, rfl, trivial⟩)
                · refine s_allocA 7 rfl zer31 fun b7 => ⟨(subl_cons rfl (subl_cons rfl (subl_cons rfl (sub_without _ _)))), ?_⟩
                  refine tail_one 2 (by kernel_rfl) rfl rfl (s_appendM 61 (some (b28, [], 0)) 0 ps.length [] (ps.map Pt.l) rfl (List.length_map _) elt22 rfl rfl ⟨rfl, Nat.le_refl _, Nat.zero_le _, rfl, fun y hy => nomatch hy⟩ (subs ⟨rfl, trivial⟩) rfl (fun w' hw => ⟨l, fz, (hw.below.block bl hblt).trans hb, hpt⟩) (fun x hx => by obtain ⟨y, _, rfl⟩ := List.mem_map.1 hx; rfl) (by omega) (by unfold maxLen; omega) (by omega) fun g2 cur2 cap2 hk => ⟨(subl_cons rfl (subl_cons rfl (subl_cons rfl (subl_cons rfl (sub_without _ _))))), ?_⟩)  -- more.go:16
                  refine tail_one 5 (by kernel_rfl) rfl rfl (s_appendN 61 32 (some (g2, cur2, cap2)) (0 + ps.length) ([] ++ ps.map Pt.l) p.l (by simp) elt22 rfl rfl hk (subs ⟨rfl, trivial⟩) rfl rfl rfl rfl (by omega) (by unfold maxLen; omega) fun g3 cur3 cap3 hk3 => ⟨(subl_cons rfl (subl_cons rfl (subl_cons rfl (subl_cons rfl (subl_cons rfl (sub_without _ _)))))), ?_⟩)  -- more.go:16
                  refine tail_one 6 (by kernel_rfl) rfl rfl (s_near hem rfl rfl rfl (fun w' hw => told_more hw rfl hk3 (by omega)) fun own2 g4 cur4 cap4 hE2 hsv2 => ⟨(subl_cons rfl (subl_cons rfl (subl_cons rfl (subl_cons rfl (subl_cons rfl (subl_cons rfl (sub_without _ _))))))), ?_⟩)  -- more.go:16
                  refine tail_quiet 7 (by kernel_rfl) rfl rfl rfl (q_move rfl) ?_  -- more.go:16
                  refine tail_quiet 8 (by kernel_rfl) rfl rfl rfl (q_extract rfl rfl) ?_  -- more.go:16
                  refine tail_quiet 9 (by kernel_rfl) rfl rfl rfl (q_extract rfl rfl) ?_  -- more.go:16
                  refine tail_one 11 (by kernel_rfl) rfl rfl (s_storeW 7 siz31 rfl rfl rfl rfl rfl rfl ⟨(subl_cons rfl (subl_cons rfl (subl_cons rfl (subl_cons rfl (subl_cons rfl (subl_cons rfl (subl_cons rfl (sub_without _ _)))))))), ?_⟩)  -- more.go:16
                  refine tail_quiet 12 (by kernel_rfl) rfl rfl rfl (q_assign rfl) ?_  -- more.go:16
                  refine tail_nil (by kernel_rfl) ?_
                  exact at_join (own2, g4, cap4, b7) (hE2) (subs ⟨rfl, rfl, rfl, rfl, trivial⟩) (subs ⟨rfl, rfl, rfl, trivial⟩)
              · refine s_allocA 7 rfl zer31 fun b7 => ⟨(subl_cons rfl (subl_cons rfl (sub_without _ _))), ?_⟩
                refine tail_cons [2, 4] (by kernel_rfl) ⟨⟨_, rfl, rfl, ?_⟩, ⟨_, rfl, rfl, ?_⟩, trivial⟩
                · refine s_appendM 61 (some (b28, [], 0)) 0 ps.length [] (ps.map Pt.l) rfl (List.length_map _) elt22 rfl rfl ⟨rfl, Nat.le_refl _, Nat.zero_le _, rfl, fun y hy => nomatch hy⟩ (subs ⟨rfl, trivial⟩) rfl (fun w' hw => ⟨l, fz, (hw.below.block bl hblt).trans hb, hpt⟩) (fun x hx => by obtain ⟨y, _, rfl⟩ := List.mem_map.1 hx; rfl) (by omega) (by unfold maxLen; omega) (by omega) fun g2 cur2 cap2 hk => ⟨(subl_cons rfl (subl_cons rfl (subl_cons rfl (sub_without _ _)))), ?_⟩
                  refine tail_one 4 (by kernel_rfl) rfl rfl (s_buildSl 32 rfl rfl rfl (bslP p) fun b32 => ⟨(subl_cons rfl (subl_cons rfl (subl_cons rfl (subl_cons rfl (sub_without _ _))))), ?_⟩)  -- more.go:16
                  refine tail_one 5 (by kernel_rfl) rfl rfl (s_appendN 61 32 (some (g2, cur2, cap2)) (0 + ps.length) ([] ++ ps.map Pt.l) p.l (by simp) elt22 rfl rfl hk (subs ⟨rfl, trivial⟩) rfl rfl rfl rfl (by omega) (by unfold maxLen; omega) fun g3 cur3 cap3 hk3 => ⟨(subl_cons rfl (subl_cons rfl (subl_cons rfl (subl_cons rfl (subl_cons rfl (sub_without _ _)))))), ?_⟩)  -- more.go:16
                  refine tail_one 6 (by kernel_rfl) rfl rfl (s_near hem rfl rfl rfl (fun w' hw => told_more hw rfl hk3 (by omega)) fun own2 g4 cur4 cap4 hE2 hsv2 => ⟨(subl_cons rfl (subl_cons rfl (subl_cons rfl (subl_cons rfl (subl_cons rfl (subl_cons rfl (sub_without _ _))))))), ?_⟩)  -- more.go:16
                  refine tail_quiet 7 (by kernel_rfl) rfl rfl rfl (q_move rfl) ?_  -- more.go:16
                  refine tail_quiet 8 (by kernel_rfl) rfl rfl rfl (q_extract rfl rfl) ?_  -- more.go:16
                  refine tail_quiet 9 (by kernel_rfl) rfl rfl rfl (q_extract rfl rfl) ?_  -- more.go:16
                  refine tail_one 11 (by kernel_rfl) rfl rfl (s_storeW 7 siz31 rfl rfl rfl rfl rfl rfl ⟨(subl_cons rfl (subl_cons rfl (subl_cons rfl (subl_cons rfl (subl_cons rfl (subl_cons rfl (subl_cons rfl (sub_without _ _)))))))), ?_⟩)  -- more.go:16
                  refine tail_quiet 12 (by kernel_rfl) rfl rfl rfl (q_assign rfl) ?_  -- more.go:16
                  refine tail_nil (by kernel_rfl) ?_
                  exact at_join (own2, g4, cap4, b7) (hE2) (subs ⟨rfl, rfl, rfl, rfl, trivial⟩) (subs ⟨rfl, rfl, rfl, trivial⟩)
                · refine s_buildSl 32 rfl rfl rfl (bslP p) fun b32 => ⟨(subl_cons rfl (subl_cons rfl (subl_cons rfl (sub_without _ _)))), ?_⟩
                  refine tail_one 2 (by kernel_rfl) rfl rfl (s_appendM 61 (some (b28, [], 0)) 0 ps.length [] (ps.map Pt.l) rfl (List.length_map _) elt22 rfl rfl ⟨rfl, Nat.le_refl _, Nat.zero_le _, rfl, fun y hy => nomatch hy⟩ (subs ⟨rfl, trivial⟩) rfl (fun w' hw => ⟨l, fz, (hw.below.block bl hblt).trans hb, hpt⟩) (fun x hx => by obtain ⟨y, _, rfl⟩ := List.mem_map.1 hx; rfl) (by omega) (by unfold maxLen; omega) (by omega) fun g2 cur2 cap2 hk => ⟨(subl_cons rfl (subl_cons rfl (subl_cons rfl (subl_cons rfl (sub_without _ _))))), ?_⟩)  -- more.go:16
                  refine tail_one 5 (by kernel_rfl) rfl rfl (s_appendN 61 32 (some (g2, cur2, cap2)) (0 + ps.length) ([] ++ ps.map Pt.l) p.l (by simp) elt22 rfl rfl hk (subs ⟨rfl, trivial⟩) rfl rfl rfl rfl (by omega) (by unfold maxLen; omega) fun g3 cur3 cap3 hk3 => ⟨(subl_cons rfl (subl_cons rfl (subl_cons rfl (subl_cons rfl (subl_cons rfl (sub_without _ _)))))), ?_⟩)  -- more.go:16
                  refine tail_one 6 (by kernel_rfl) rfl rfl (s_near hem rfl rfl rfl (fun w' hw => told_more hw rfl hk3 (by omega)) fun own2 g4 cur4 cap4 hE2 hsv2 => ⟨(subl_cons rfl (subl_cons rfl (subl_cons rfl (subl_cons rfl (subl_cons rfl (subl_cons rfl (sub_without _ _))))))), ?_⟩)  -- more.go:16
                  refine tail_quiet 7 (by kernel_rfl) rfl rfl rfl (q_move rfl) ?_  -- more.go:16
                  refine tail_quiet 8 (by kernel_rfl) rfl rfl rfl (q_extract rfl rfl) ?_  -- more.go:16
                  refine tail_quiet 9 (by kernel_rfl) rfl rfl rfl (q_extract rfl rfl) ?_  -- more.go:16
                  refine tail_one 11 (by kernel_rfl) rfl rfl (s_storeW 7 siz31 rfl rfl rfl rfl rfl rfl ⟨(subl_cons rfl (subl_cons rfl (subl_cons rfl (subl_cons rfl (subl_cons rfl (subl_cons rfl (subl_cons rfl (sub_without _ _)))))))), ?_⟩)  -- more.go:16
                  refine tail_quiet 12 (by kernel_rfl) rfl rfl rfl (q_assign rfl) ?_  -- more.go:16
                  refine tail_nil (by kernel_rfl) ?_
                  exact at_join (own2, g4, cap4, b7) (hE2) (subs ⟨rfl, rfl, rfl, rfl, trivial⟩) (subs ⟨rfl, rfl, rfl, trivial⟩)
            · refine s_buildSl 32 rfl rfl rfl (bslP p) fun b32 => ⟨(subl_cons rfl (sub_without _ _)), ?_⟩
              refine tail_cons [0, 10] (by kernel_rfl) ⟨⟨_, rfl, rfl, ?_⟩, ⟨_, rfl, rfl, ?_⟩, trivial⟩
              · refine s_buildSl 61 (vs := []) rfl rfl rfl (l := []) (e := 38) (fun w => by kernel_rfl) fun b28 => ⟨(subl_cons rfl (subl_cons rfl (sub_without _ _))), ?_⟩
                refine tail_cons [2, 10] (by kernel_rfl) ⟨⟨_, rfl, rfl, ?_⟩, ⟨_, rfl, rfl, ?_⟩, trivial⟩
                · refine s_appendM 61 (some (b28, [], 0)) 0 ps.length [] (ps.map Pt.l) rfl (List.length_map _) elt22 rfl rfl ⟨rfl, Nat.le_refl _, Nat.zero_le _, rfl, fun y hy => nomatch hy⟩ (subs ⟨rfl, trivial⟩) rfl (fun w' hw => ⟨l, fz, (hw.below.block bl hblt).trans hb, hpt⟩) (fun x hx => by obtain ⟨y, _, rfl⟩ := List.mem_map.1 hx; rfl) (by omega) (by unfold maxLen; omega) (by omega) fun g2 cur2 cap2 hk => ⟨(subl_cons rfl (subl_cons rfl (subl_cons rfl (sub_without _ _)))), ?_⟩
                  refine tail_cons [5, 10] (by kernel_rfl) ⟨⟨_, rfl, rfl, ?_⟩, ⟨_, rfl, rfl, ?_⟩, trivial⟩
                  · refine s_appendN 61 32 (some (g2, cur2, cap2)) (0 + ps.length) ([] ++ ps.map Pt.l) p.l (by simp) elt22 rfl rfl hk (subs ⟨rfl, trivial⟩) rfl rfl rfl rfl (by omega) (by unfold maxLen; omega) fun g3 cur3 cap3 hk3 => ⟨(subl_cons rfl (subl_cons rfl (subl_cons rfl (subl_cons rfl (sub_without _ _))))), ?_⟩
                    refine tail_cons [6, 10] (by kernel_rfl) ⟨⟨_, rfl, rfl, ?_⟩, ⟨_, rfl, rfl, ?_⟩, trivial⟩
                    · refine s_near hem rfl rfl rfl (fun w' hw => told_more hw rfl hk3 (by omega)) fun own2 g4 cur4 cap4 hE2 hsv2 => ⟨(subl_cons rfl (subl_cons rfl (subl_cons rfl (subl_cons rfl (subl_cons rfl (sub_without _ _)))))), ?_⟩
                      refine tail_quiet 7 (by kernel_rfl) rfl rfl rfl (q_move rfl) ?_  -- more.go:16
                      refine tail_quiet 8 (by kernel_rfl) rfl rfl rfl (q_extract rfl rfl) ?_  -- more.go:16
                      refine tail_quiet 9 (by kernel_rfl) rfl rfl rfl (q_extract rfl rfl) ?_  -- more.go:16
                      refine tail_one 10 (by kernel_rfl) rfl rfl (s_allocA 7 rfl zer31 fun b7 => ⟨(subl_cons rfl (subl_cons rfl (subl_cons rfl (subl_cons rfl (subl_cons rfl (subl_cons rfl (sub_without _ _))))))), ?_⟩)  -- more.go:16
                      refine tail_one 11 (by kernel_rfl) rfl rfl (s_storeW 7 siz31 rfl rfl rfl rfl rfl rfl ⟨(subl_cons rfl (subl_cons rfl (subl_cons rfl (subl_cons rfl (subl_cons rfl (subl_cons rfl (subl_cons rfl (sub_without _ _)))))))), ?_⟩)  -- more.go:16
                      refine tail_quiet 12 (by kernel_rfl) rfl rfl rfl (q_assign rfl) ?_  -- more.go:16
                      refine tail_nil (by kernel_rfl) ?_
                      exact at_join (own2, g4, cap4, b7) (hE2) (subs ⟨rfl, rfl, rfl, rfl, trivial⟩) (subs ⟨rfl, rfl, rfl, trivial⟩)
                    · refine s_allocA 7 rfl zer31 fun b7 => ⟨(subl_cons rfl (subl_cons rfl (subl_cons rfl (subl_cons rfl (subl_cons rfl (sub_without _ _)))))), ?_⟩
                      refine tail_one 6 (by kernel_rfl) rfl rfl (s_near hem rfl rfl rfl (fun w' hw => told_more hw rfl hk3 (by omega)) fun own2 g4 cur4 cap4 hE2 hsv2 => ⟨(subl_cons rfl (subl_cons rfl (subl_cons rfl (subl_cons rfl (subl_cons rfl (subl_cons rfl (sub_without _ _))))))), ?_⟩)  -- more.go:16
                      refine tail_quiet 7 (by kernel_rfl) rfl rfl rfl (q_move rfl) ?_  -- more.go:16
                      refine tail_quiet 8 (by kernel_rfl) rfl rfl rfl (q_extract rfl rfl) ?_  -- more.go:16
                      refine tail_quiet 9 (by kernel_rfl) rfl rfl rfl (q_extract rfl rfl) ?_  -- more.go:16
                      refine tail_one 11 (by kernel_rfl) rfl rfl (s_storeW 7 siz31 rfl rfl rfl rfl rfl rfl ⟨(subl_cons rfl (subl_cons rfl (subl_cons rfl (subl_cons rfl (subl_cons rfl (subl_cons rfl (subl_cons rfl (sub_without _ _)))))))), ?_⟩)  -- more.go:16
                      refine tail_quiet 12 (by kernel_rfl) rfl rfl rfl (q_assign rfl) ?_  -- more.go:16
                      refine tail_nil (by kernel_rfl) ?_
                      exact at_join (own2, g4, cap4, b7) (hE2) (subs ⟨rfl, rfl, rfl, rfl, trivial⟩) (subs ⟨rfl, rfl, rfl, trivial⟩)
                  · refine s_allocA 7 rfl zer31 fun b7 => ⟨(subl_cons rfl (subl_cons rfl (subl_cons rfl (subl_cons rfl (sub_without _ _))))), ?_⟩
                    refine tail_one 5 (by kernel_rfl) rfl rfl (s_appendN 61 32 (some (g2, cur2, cap2)) (0 + ps.length) ([] ++ ps.map Pt.l) p.l (by simp) elt22 rfl rfl hk (subs ⟨rfl, trivial⟩) rfl rfl rfl rfl (by omega) (by unfold maxLen; omega) fun g3 cur3 cap3 hk3 => ⟨(subl_cons rfl (subl_cons rfl (subl_cons rfl (subl_cons rfl (subl_cons rfl (sub_without _ _)))))), ?_⟩)  -- more.go:16
                    refine tail_one 6 (by kernel_rfl) rfl rfl (s_near hem rfl rfl rfl (fun w' hw => told_more hw rfl hk3 (by omega)) fun own2 g4 cur4 cap4 hE2 hsv2 => ⟨(subl_cons rfl (subl_cons rfl (subl_cons rfl (subl_cons rfl (subl_cons rfl (subl_cons rfl (sub_without _ _))))))), ?_⟩)  -- more.go:16
                    refine tail_quiet 7 (by kernel_rfl) rfl rfl rfl (q_move rfl) ?_  -- more.go:16
                    refine tail_quiet 8 (by kernel_rfl) rfl rfl rfl (q_extract rfl rfl) ?_  -- more.go:16
                    refine tail_quiet 9 (by kernel_rfl) rfl rfl rfl (q_extract rfl rfl) ?_  -- more.go:16
                    refine tail_one 11 (by kernel_rfl) rfl rfl (s_storeW 7 siz31 rfl rfl rfl rfl rfl rfl ⟨(subl_cons rfl (subl_cons rfl (subl_cons rfl (subl_cons rfl (subl_cons rfl (subl_cons rfl (subl_cons rfl (sub_without _ _)))))))), ?_⟩)  -- more.go:16
                    refine tail_quiet 12 (by kernel_rfl) rfl rfl rfl (q_assign rfl) ?_  -- more.go:16
                    refine tail_nil (by kernel_rfl) ?_
                    exact at_join (own2, g4, cap4, b7) (hE2) (subs ⟨rfl, rfl, rfl, rfl, trivial⟩) (subs ⟨rfl, rfl, rfl, trivial⟩)
                · refine s_allocA 7 rfl zer31 fun b7 => ⟨(subl_cons rfl (subl_cons rfl (subl_cons rfl (sub_without _ _)))), ?_⟩
                  refine tail_one 2 (by kernel_rfl) rfl rfl (s_appendM 61 (some (b28, [], 0)) 0 ps.length [] (ps.map Pt.l) rfl (List.length_map _) elt22 rfl rfl ⟨rfl, Nat.le_refl _, Nat.zero_le _, rfl, fun y hy => nomatch hy⟩ (subs ⟨rfl, trivial⟩) rfl (fun w' hw => ⟨l, fz, (hw.below.block bl hblt).trans hb, hpt⟩) (fun x hx => by obtain ⟨y, _, rfl⟩ := List.mem_map.1 hx; rfl) (by omega) (by unfold maxLen; omega) (by omega) fun g2 cur2 cap2 hk => ⟨(subl_cons rfl (subl_cons rfl (subl_cons rfl (subl_cons rfl (sub_without _ _))))), ?_⟩)  -- more.go:16
                  refine tail_one 5 (by kernel_rfl) rfl rfl (s_appendN 61 32 (some (g2, cur2, cap2)) (0 + ps.length) ([] ++ ps.map Pt.l) p.l (by simp) elt22 rfl rfl hk (subs ⟨rfl, trivial⟩) rfl rfl rfl rfl (by omega) (by unfold maxLen; omega) fun g3 cur3 cap3 hk3 => ⟨(subl_cons rfl (subl_cons rfl (subl_cons rfl (subl_cons rfl (subl_cons rfl (sub_without _ _)))))), ?_⟩)  -- more.go:16
                  refine tail_one 6 (by kernel_rfl) rfl rfl (s_near hem rfl rfl rfl (fun w' hw => told_more hw rfl hk3 (by omega)) fun own2 g4 cur4 cap4 hE2 hsv2 => ⟨(subl_cons rfl (subl_cons rfl (subl_cons rfl (subl_cons rfl (subl_cons rfl (subl_cons rfl (sub_without _ _))))))), ?_⟩)  -- more.go:16
                  refine tail_quiet 7 (by kernel_rfl) rfl rfl rfl (q_move rfl) ?_  -- more.go:16
                  refine tail_quiet 8 (by kernel_rfl) rfl rfl rfl (q_extract rfl rfl) ?_  -- more.go:16
                  refine tail_quiet 9 (by kernel_rfl) rfl rfl rfl (q_extract rfl rfl) ?_  -- more.go:16
                  refine tail_one 11 (by kernel_rfl) rfl rfl (s_storeW 7 siz31 rfl rfl rfl rfl rfl rfl ⟨(subl_cons rfl (subl_cons rfl (subl_cons rfl (subl_cons rfl (subl_cons rfl (subl_cons rfl (subl_cons rfl (sub_without _ _)))))))), ?_⟩)  -- more.go:16
                  refine tail_quiet 12 (by kernel_rfl) rfl rfl rfl (q_assign rfl) ?_  -- more.go:16
                  refine tail_nil (by kernel_rfl) ?_
                  exact at_join (own2, g4, cap4, b7) (hE2) (subs ⟨rfl, rfl, rfl, rfl, trivial⟩) (subs ⟨rfl, rfl, rfl, trivial⟩)
              · refine s_allocA 7 rfl zer31 fun b7 => ⟨(subl_cons rfl (subl_cons rfl (sub_without _ _))), ?_⟩
                refine tail_one 0 (by kernel_rfl) rfl rfl (s_buildSl 61 (vs := []) rfl rfl rfl (l := []) (e := 38) (fun w => by kernel_rfl) fun b28 => ⟨(subl_cons rfl (subl_cons rfl (subl_cons rfl (sub_without _ _)))), ?_⟩)  -- more.go:16
                refine tail_one 2 (by kernel_rfl) rfl rfl (s_appendM 61 (some (b28, [], 0)) 0 ps.length [] (ps.map Pt.l) rfl (List.length_map _) elt22 rfl rfl ⟨rfl, Nat.le_refl _, Nat.zero_le _, rfl, fun y hy => nomatch hy⟩ (subs ⟨rfl, trivial⟩) rfl (fun w' hw => ⟨l, fz, (hw.below.block bl hblt).trans hb, hpt⟩) (fun x hx => by obtain ⟨y, _, rfl⟩ := List.mem_map.1 hx; rfl) (by omega) (by unfold maxLen; omega) (by omega) fun g2 cur2 cap2 hk => ⟨(subl_cons rfl (subl_cons rfl (subl_cons rfl (subl_cons rfl (sub_without _ _))))), ?_⟩)  -- more.go:16
                refine tail_one 5 (by kernel_rfl) rfl rfl (s_appendN 61 32 (some (g2, cur2, cap2)) (0 + ps.length) ([] ++ ps.map Pt.l) p.l (by simp) elt22 rfl rfl hk (subs ⟨rfl, trivial⟩) rfl rfl rfl rfl (by omega) (by unfold maxLen; omega) fun g3 cur3 cap3 hk3 => ⟨(subl_cons rfl (subl_cons rfl (subl_cons rfl (subl_cons rfl (subl_cons rfl (sub_without _ _)))))), ?_⟩)  -- more.go:16
                refine tail_one 6 (by kernel_rfl) rfl rfl (s_near hem rfl rfl rfl (fun w' hw => told_more hw rfl hk3 (by omega)) fun own2 g4 cur4 cap4 hE2 hsv2 => ⟨(subl_cons rfl (subl_cons rfl (subl_cons rfl (subl_cons rfl (subl_cons rfl (subl_cons rfl (sub_without _ _))))))), ?_⟩)  -- more.go:16
                refine tail_quiet 7 (by kernel_rfl) rfl rfl rfl (q_move rfl) ?_  -- more.go:16
                refine tail_quiet 8 (by kernel_rfl) rfl rfl rfl (q_extract rfl rfl) ?_  -- more.go:16
                refine tail_quiet 9 (by kernel_rfl) rfl rfl rfl (q_extract rfl rfl) ?_  -- more.go:16
                refine tail_one 11 (by kernel_rfl) rfl rfl (s_storeW 7 siz31 rfl rfl rfl rfl rfl rfl ⟨(subl_cons rfl (subl_cons rfl (subl_cons rfl (subl_cons rfl (subl_cons rfl (subl_cons rfl (subl_cons rfl (sub_without _ _)))))))), ?_⟩)  -- more.go:16
                refine tail_quiet 12 (by kernel_rfl) rfl rfl rfl (q_assign rfl) ?_  -- more.go:16
                refine tail_nil (by kernel_rfl) ?_
                exact at_join (own2, g4, cap4, b7) (hE2) (subs ⟨rfl, rfl, rfl, rfl, trivial⟩) (subs ⟨rfl, rfl, rfl, trivial⟩)
            · refine s_allocA 7 rfl zer31 fun b7 => ⟨(subl_cons rfl (sub_without _ _)), ?_⟩
              refine tail_cons [0, 4] (by kernel_rfl) ⟨⟨_, rfl, rfl, ?_⟩, ⟨_, rfl, rfl, ?_⟩, trivial⟩
              · refine s_buildSl 61 (vs := []) rfl rfl rfl (l := []) (e := 38) (fun w => by kernel_rfl) fun b28 => ⟨(subl_cons rfl (subl_cons rfl (sub_without _ _))), ?_⟩
                refine tail_cons [2, 4] (by kernel_rfl) ⟨⟨_, rfl, rfl, ?_⟩, ⟨_, rfl, rfl, ?_⟩, trivial⟩
                · refine s_appendM 61 (some (b28, [], 0)) 0 ps.length [] (ps.map Pt.l) rfl (List.length_map _) elt22 rfl rfl ⟨rfl, Nat.le_refl _, Nat.zero_le _, rfl, fun y hy => nomatch hy⟩ (subs ⟨rfl, trivial⟩) rfl (fun w' hw => ⟨l, fz, (hw.below.block bl hblt).trans hb, hpt⟩) (fun x hx => by obtain ⟨y, _, rfl⟩ := List.mem_map.1 hx; rfl) (by omega) (by unfold maxLen; omega) (by omega) fun g2 cur2 cap2 hk => ⟨(subl_cons rfl (subl_cons rfl (subl_cons rfl (sub_without _ _)))), ?_⟩
                  refine tail_one 4 (by kernel_rfl) rfl rfl (s_buildSl 32 rfl rfl rfl (bslP p) fun b32 => ⟨(subl_cons rfl (subl_cons rfl (subl_cons rfl (subl_cons rfl (sub_without _ _))))), ?_⟩)  -- more.go:16
                  refine tail_one 5 (by kernel_rfl) rfl rfl (s_appendN 61 32 (some (g2, cur2, cap2)) (0 + ps.length) ([] ++ ps.map Pt.l) p.l (by simp) elt22 rfl rfl hk (subs ⟨rfl, trivial⟩) rfl rfl rfl rfl (by omega) (by unfold maxLen; omega) fun g3 cur3 cap3 hk3 => ⟨(subl_cons rfl (subl_cons rfl (subl_cons rfl (subl_cons rfl (subl_cons rfl (sub_without _ _)))))), ?_⟩)  -- more.go:16
                  refine tail_one 6 (by kernel_rfl) rfl rfl (s_near hem rfl rfl rfl (fun w' hw => told_more hw rfl hk3 (by omega)) fun own2 g4 cur4 cap4 hE2 hsv2 => ⟨(subl_cons rfl (subl_cons rfl (subl_cons rfl (subl_cons rfl (subl_cons rfl (subl_cons rfl (sub_without _ _))))))), ?_⟩)  -- more.go:16
                  refine tail_quiet 7 (by kernel_rfl) rfl rfl rfl (q_move rfl) ?_  -- more.go:16
                  refine tail_quiet 8 (by kernel_rfl) rfl rfl rfl (q_extract rfl rfl) ?_  -- more.go:16
                  refine tail_quiet 9 (by kernel_rfl) rfl rfl rfl (q_extract rfl rfl) ?_  -- more.go:16
                  refine tail_one 11 (by kernel_rfl) rfl rfl (s_storeW 7 siz31 rfl rfl rfl rfl rfl rfl ⟨(subl_cons rfl (subl_cons rfl (subl_cons rfl (subl_cons rfl (subl_cons rfl (subl_cons rfl (subl_cons rfl (sub_without _ _)))))))), ?_⟩)  -- more.go:16
                  refine tail_quiet 12 (by kernel_rfl) rfl rfl rfl (q_assign rfl) ?_  -- more.go:16
                  refine tail_nil (by kernel_rfl) ?_
                  exact at_join (own2, g4, cap4, b7) (hE2) (subs ⟨rfl, rfl, rfl, rfl, trivial⟩) (subs ⟨rfl, rfl, rfl, trivial⟩)
                · refine s_buildSl 32 rfl rfl rfl (bslP p) fun b32 => ⟨(subl_cons rfl (subl_cons rfl (subl_cons rfl (sub_without _ _)))), ?_⟩
                  refine tail_one 2 (by kernel_rfl) rfl rfl (s_appendM 61 (some (b28, [], 0)) 0 ps.length [] (ps.map Pt.l) rfl (List.length_map _) elt22 rfl rfl ⟨rfl, Nat.le_refl _, Nat.zero_le _, rfl, fun y hy => nomatch hy⟩ (subs ⟨rfl, trivial⟩) rfl (fun w' hw => ⟨l, fz, (hw.below.block bl hblt).trans hb, hpt⟩) (fun x hx => by obtain ⟨y, _, rfl⟩ := List.mem_map.1 hx; rfl) (by omega) (by unfold maxLen; omega) (by omega) fun g2 cur2 cap2 hk => ⟨(subl_cons rfl (subl_cons rfl (subl_cons rfl (subl_cons rfl (sub_without _ _))))), ?_⟩)  -- more.go:16
                  refine tail_one 5 (by kernel_rfl) rfl rfl (s_appendN 61 32 (some (g2, cur2, cap2)) (0 + ps.length) ([] ++ ps.map Pt.l) p.l (by simp) elt22 rfl rfl hk (subs ⟨rfl, trivial⟩) rfl rfl rfl rfl (by omega) (by unfold maxLen; omega) fun g3 cur3 cap3 hk3 => ⟨(subl_cons rfl (subl_cons rfl (subl_cons rfl (subl_cons rfl (subl_cons rfl (sub_without _ _)))))), ?_⟩)  -- more.go:16
                  refine tail_one 6 (by kernel_rfl) rfl rfl (s_near hem rfl rfl rfl (fun w' hw => told_more hw rfl hk3 (by omega)) fun own2 g4 cur4 cap4 hE2 hsv2 => ⟨(subl_cons rfl (subl_cons rfl (subl_cons rfl (subl_cons rfl (subl_cons rfl (subl_cons rfl (sub_without _ _))))))), ?_⟩)  -- more.go:16
                  refine tail_quiet 7 (by kernel_rfl) rfl rfl rfl (q_move rfl) ?_  -- more.go:16
                  refine tail_quiet 8 (by kernel_rfl) rfl rfl rfl (q_extract rfl rfl) ?_  -- more.go:16
                  refine tail_quiet 9 (by kernel_rfl) rfl rfl rfl (q_extract rfl rfl) ?_  -- more.go:16
                  refine tail_one 11 (by kernel_rfl) rfl rfl (s_storeW 7 siz31 rfl rfl rfl rfl rfl rfl ⟨(subl_cons rfl (subl_cons rfl (subl_cons rfl (subl_cons rfl (subl_cons rfl (subl_cons rfl (subl_cons rfl (sub_without _ _)))))))), ?_⟩)  -- more.go:16
                  refine tail_quiet 12 (by kernel_rfl) rfl rfl rfl (q_assign rfl) ?_  -- more.go:16
                  refine tail_nil (by kernel_rfl) ?_
                  exact at_join (own2, g4, cap4, b7) (hE2) (subs ⟨rfl, rfl, rfl, rfl, trivial⟩) (subs ⟨rfl, rfl, rfl, trivial⟩)
              · refine s_buildSl 32 rfl rfl rfl (bslP p) fun b32 => ⟨(subl_cons rfl (subl_cons rfl (sub_without _ _))), ?_⟩
                refine tail_one 0 (by kernel_rfl) rfl rfl (s_buildSl 61 (vs := []) rfl rfl rfl (l := []) (e := 38) (fun w => by kernel_rfl) fun b28 => ⟨(subl_cons rfl (subl_cons rfl (subl_cons rfl (sub_without _ _)))), ?_⟩)  -- more.go:16
                refine tail_one 2 (by kernel_rfl) rfl rfl (s_appendM 61 (some (b28, [], 0)) 0 ps.length [] (ps.map Pt.l) rfl (List.length_map _) elt22 rfl rfl ⟨rfl, Nat.le_refl _, Nat.zero_le _, rfl, fun y hy => nomatch hy⟩ (subs ⟨rfl, trivial⟩) rfl (fun w' hw => ⟨l, fz, (hw.below.block bl hblt).trans hb, hpt⟩) (fun x hx => by obtain ⟨y, _, rfl⟩ := List.mem_map.1 hx; rfl) (by omega) (by unfold maxLen; omega) (by omega) fun g2 cur2 cap2 hk => ⟨(subl_cons rfl (subl_cons rfl (subl_cons rfl (subl_cons rfl (sub_without _ _))))), ?_⟩)  -- more.go:16
                refine tail_one 5 (by kernel_rfl) rfl rfl (s_appendN 61 32 (some (g2, cur2, cap2)) (0 + ps.length) ([] ++ ps.map Pt.l) p.l (by simp) elt22 rfl rfl hk (subs ⟨rfl, trivial⟩) rfl rfl rfl rfl (by omega) (by unfold maxLen; omega) fun g3 cur3 cap3 hk3 => ⟨(subl_cons rfl (subl_cons rfl (subl_cons rfl (subl_cons rfl (subl_cons rfl (sub_without _ _)))))), ?_⟩)  -- more.go:16
                refine tail_one 6 (by kernel_rfl) rfl rfl (s_near hem rfl rfl rfl (fun w' hw => told_more hw rfl hk3 (by omega)) fun own2 g4 cur4 cap4 hE2 hsv2 => ⟨(subl_cons rfl (subl_cons rfl (subl_cons rfl (subl_cons rfl (subl_cons rfl (subl_cons rfl (sub_without _ _))))))), ?_⟩)  -- more.go:16
                refine tail_quiet 7 (by kernel_rfl) rfl rfl rfl (q_move rfl) ?_  -- more.go:16
                refine tail_quiet 8 (by kernel_rfl) rfl rfl rfl (q_extract rfl rfl) ?_  -- more.go:16
                refine tail_quiet 9 (by kernel_rfl) rfl rfl rfl (q_extract rfl rfl) ?_  -- more.go:16
                refine tail_one 11 (by kernel_rfl) rfl rfl (s_storeW 7 siz31 rfl rfl rfl rfl rfl rfl ⟨(subl_cons rfl (subl_cons rfl (subl_cons rfl (subl_cons rfl (subl_cons rfl (subl_cons rfl (subl_cons rfl (sub_without _ _)))))))), ?_⟩)  -- more.go:16
                refine tail_quiet 12 (by kernel_rfl) rfl rfl rfl (q_assign rfl) ?_  -- more.go:16
                refine tail_nil (by kernel_rfl) ?_
                exact at_join (own2, g4, cap4, b7) (hE2) (subs ⟨rfl, rfl, rfl, rfl, trivial⟩) (subs ⟨rfl, rfl, rfl, trivial⟩)
          · -- behind region 4
            rintro ⟨own2, g4, cap4, b7⟩ hM
            dsimp only at hM
            conv => enter [7]; dsimp only
            conv => enter [8]; dsimp only
            refine cw_seq ?_
            have hf2 := ends_fits (errG_ok.1 hem).1 hM
            refine cw_sr ?_
            refine steps_q rfl (q_move rfl) ?_  -- more.go:17
            refine steps_q rfl (q_bin rfl rfl (neq_f rfl)) ?_  -- more.go:17
            refine steps_nil ?_
            refine cw_cond _ rfl (fun hc2 => ?_) (fun hc2 => ?_)
            · cases hc2
            · -- no 2
              refine cw_skip ?_
              refine at_then ?_
              refine cw_seq ?_
              refine cw_sr ?_
              refine steps_q rfl (q_loadW 5 agg31 rfl rfl rfl) ?_  -- more.go:20
              refine steps_q rfl (q_loadW 3 agg38 rfl rfl rfl) ?_  -- more.go:20
              refine steps_q rfl (q_pure ent10 rfl (simplex_Past (m := ⟨(nrOf (sel ps own)).n, (nrOf (sel ps own)).d, .slice (some ⟨g, 0, none⟩) own.length cap⟩) hf.1 (by have := hf.2; dsimp only; omega) (hp.mono (by decide)))) ?_  -- more.go:20
              refine steps_q rfl (q_not rfl rfl) ?_  -- more.go:20
              refine steps_nil ?_
              refine cw_cond _ rfl (fun hc3 => ?_) (fun hc3 => ?_)
              · -- yes 3
                have hnp : pastB (nrOf (sel ps own)).n (nrOf (sel ps own)).d p = false := by simpa using hc3
                have hah : Ahead (ps ++ [p]) (nI (sel ps own)) (dI (sel ps own)) := more_ahead hE hnp
                have hsame := nr_same hE hM (fun q hq => List.mem_append_left _ hq) hah
                refine cw_sr ?_
                refine steps_q rfl (q_loadW 5 agg31 rfl rfl rfl) ?_  -- more.go:21
                refine steps_q rfl (q_loadW 7 agg31 rfl rfl rfl) ?_  -- more.go:21
                refine steps_q rfl (q_pure ent8 rfl (law_same_nr hsame hf)) ?_  -- more.go:21
                refine steps_q rfl (q_move rfl) ?_  -- more.go:21
                refine steps_gq rfl rfl rfl (q_pure ent7 rfl law_awake) ?_  -- more.go:21
                refine steps_q rfl (q_pick_t rfl rfl) ?_  -- more.go:21
                refine steps_q rfl (q_assign rfl) ?_  -- more.go:21
                refine steps_nil ?_
                refine cw_ret ?_
                exact ret_pure rfl (rv_tmp rfl rv_nil) rfl
              · -- no 3
                have hpa : pastB (nrOf (sel ps own)).n (nrOf (sel ps own)).d p = true := by simpa using hc3
                have hlt := nr_nearer hE hM (fun q hq => List.mem_append_left _ hq) (List.mem_append_right ps (List.mem_singleton.2 rfl)) (past_of (by have := hE.1.good.dpos; omega) hpa)
                refine cw_skip ?_
                refine at_then ?_
                refine cw_sr ?_
                refine steps_q rfl (q_loadW 7 agg31 rfl rfl rfl) ?_  -- more.go:23
                refine steps_q rfl (q_loadW 5 agg31 rfl rfl rfl) ?_  -- more.go:23
                refine steps_q rfl (q_pure ent15 rfl (simplex_Cmp (a := ⟨(nrOf (sel (ps ++ [p]) own2)).n, (nrOf (sel (ps ++ [p]) own2)).d, .slice (some ⟨g4, 0, none⟩) own2.length cap4⟩) (b := ⟨(nrOf (sel ps own)).n, (nrOf (sel ps own)).d, .slice (some ⟨g, 0, none⟩) own.length cap⟩) hf2.1 hf.1 (by have := hf2.2; dsimp only; omega) (by have := hf.2; dsimp only; omega))) ?_  -- more.go:23
                rw [show nearI ⟨(nrOf (sel (ps ++ [p]) own2)).n, (nrOf (sel (ps ++ [p]) own2)).d, .slice (some ⟨g4, 0, none⟩) own2.length cap4⟩ ⟨(nrOf (sel ps own)).n, (nrOf (sel ps own)).d, .slice (some ⟨g, 0, none⟩) own.length cap⟩ = -1 from cmp3_lt hlt]
                refine steps_q rfl (q_bin rfl rfl (lss_t (by decide))) ?_  -- more.go:23
                refine steps_q rfl (q_move rfl) ?_  -- more.go:23
                refine steps_gq rfl rfl rfl (q_pure ent7 rfl law_awake) ?_  -- more.go:23
                refine steps_q rfl (q_pick_t rfl rfl) ?_  -- more.go:23
                refine steps_q rfl (q_assign rfl) ?_  -- more.go:23
                refine steps_nil ?_
                refine cw_ret ?_
                exact ret_pure rfl (rv_tmp rfl rv_nil) rfl
      · skip
        have hep : errP p = 7 := if_neg hp
        refine cw_sr ?_
        refine steps_s (s_boxA 3 rfl rfl fun b3 => ?_)  -- more.go:11
        refine steps_q rfl (q_assign rfl) ?_  -- more.go:11
        refine steps_nil ?_
        refine cw_sr ?_
        refine steps_q rfl (q_move rfl) ?_  -- more.go:12
        refine steps_s (s_near he rfl rfl rfl (fun w' hw => SlAt.st hv0 hw) fun own g cur cap hE hsv => ?_)  -- more.go:12
        refine steps_q rfl (q_move rfl) ?_  -- more.go:12
        refine steps_q rfl (q_extract rfl rfl) ?_  -- more.go:12
        refine steps_q rfl (q_extract rfl rfl) ?_  -- more.go:12
        refine steps_s (s_allocA 5 rfl zer31 fun b5 => ?_)  -- more.go:12
        refine steps_s (s_storeW 5 siz31 rfl rfl rfl rfl rfl rfl ?_)  -- more.go:12
        refine steps_q rfl (q_assign rfl) ?_  -- more.go:12
        refine steps_nil ?_
        refine cw_seq ?_
        refine cw_sr ?_
        refine steps_q rfl (q_move rfl) ?_  -- more.go:13
        refine steps_q rfl (q_bin rfl rfl (neq_f rfl)) ?_  -- more.go:13
        refine steps_q rfl (q_move rfl) ?_  -- more.go:13
        refine steps_gq rfl rfl rfl (q_move rfl) ?_  -- more.go:13
        refine steps_gq rfl rfl rfl (q_lenSl Try.underlying22 rfl) ?_  -- more.go:13
        refine steps_gq rfl rfl rfl (q_bin rfl rfl (gtr_f (by omega))) ?_  -- more.go:13
        refine steps_q rfl (q_pick_f rfl rfl) ?_  -- more.go:13
        refine steps_q rfl (q_move rfl) ?_  -- more.go:13
        refine steps_gq rfl rfl rfl (q_loadW 3 agg38 rfl rfl rfl) ?_  -- more.go:13
        refine steps_gq rfl rfl rfl (q_pure ent14 rfl (grid_Check p)) ?_  -- more.go:13
        refine steps_gq rfl rfl rfl (q_bin rfl rfl (neq_t (by rw [hep]; decide))) ?_  -- more.go:13
        refine steps_q rfl (q_pick_f rfl rfl) ?_  -- more.go:13
        refine steps_nil ?_
        refine cw_cond _ rfl (fun hc1 => ?_) (fun hc1 => ?_)
        · -- yes 1
          refine cw_sr ?_
          refine steps_q rfl (q_pure ent7 rfl law_awake) ?_  -- more.go:14
          refine steps_q rfl (q_assign rfl) ?_  -- more.go:14
          refine steps_nil ?_
          refine cw_ret ?_
          exact ret_pure rfl (rv_tmp rfl rv_nil) rfl
        · cases hc1
    · skip
      refine cw_sr ?_
      refine steps_s (s_boxA 3 rfl rfl fun b3 => ?_)  -- more.go:11
      refine steps_q rfl (q_assign rfl) ?_  -- more.go:11
      refine steps_nil ?_
      refine cw_sr ?_
      refine steps_q rfl (q_move rfl) ?_  -- more.go:12
      refine steps_s (s_near he rfl rfl rfl (fun w' hw => SlAt.st hv0 hw) fun own g cur cap hE hsv => ?_)  -- more.go:12
      refine steps_q rfl (q_move rfl) ?_  -- more.go:12
      refine steps_q rfl (q_extract rfl rfl) ?_  -- more.go:12
      refine steps_q rfl (q_extract rfl rfl) ?_  -- more.go:12
      refine steps_s (s_allocA 5 rfl zer31 fun b5 => ?_)  -- more.go:12
      refine steps_s (s_storeW 5 siz31 rfl rfl rfl rfl rfl rfl ?_)  -- more.go:12
      refine steps_q rfl (q_assign rfl) ?_  -- more.go:12
      refine steps_nil ?_
      refine cw_seq ?_
      refine cw_sr ?_
      refine steps_q rfl (q_move rfl) ?_  -- more.go:13
      refine steps_q rfl (q_bin rfl rfl (neq_f rfl)) ?_  -- more.go:13
      refine steps_q rfl (q_move rfl) ?_  -- more.go:13
      refine steps_gq rfl rfl rfl (q_move rfl) ?_  -- more.go:13
      refine steps_gq rfl rfl rfl (q_lenSl Try.underlying22 rfl) ?_  -- more.go:13
      refine steps_gq rfl rfl rfl (q_bin rfl rfl (gtr_t (by omega))) ?_  -- more.go:13
      refine steps_q rfl (q_pick_f rfl rfl) ?_  -- more.go:13
      refine steps_q rfl (q_move rfl) ?_  -- more.go:13
      refine steps_gn rfl rfl rfl rfl ?_  -- more.go:13
      refine steps_gn rfl rfl rfl rfl ?_  -- more.go:13
      refine steps_gn rfl rfl rfl rfl ?_  -- more.go:13
      refine steps_q rfl (q_pick_t rfl rfl) ?_  -- more.go:13
      refine steps_nil ?_
      refine cw_cond _ rfl (fun hc1 => ?_) (fun hc1 => ?_)
      · -- yes 1
        refine cw_sr ?_
        refine steps_q rfl (q_pure ent7 rfl law_awake) ?_  -- more.go:14
        refine steps_q rfl (q_assign rfl) ?_  -- more.go:14
        refine steps_nil ?_
        refine cw_ret ?_
        exact ret_pure rfl (rv_tmp rfl rv_nil) rfl
      · cases hc1
  · skip
    refine cw_sr ?_
    refine steps_s (s_boxA 3 rfl rfl fun b3 => ?_)  -- more.go:11
    refine steps_q rfl (q_assign rfl) ?_  -- more.go:11
    refine steps_nil ?_
    refine cw_sr ?_
    refine steps_q rfl (q_move rfl) ?_  -- more.go:12
    refine steps_q rfl (q_call ent6 rfl rfl (fun w' hw => by simpa using gjk_Near_bad w' (SlAt.st hv0 hw) hl he)) ?_  -- more.go:12
    refine steps_q rfl (q_move rfl) ?_  -- more.go:12
    refine steps_q rfl (q_extract rfl rfl) ?_  -- more.go:12
    refine steps_q rfl (q_extract rfl rfl) ?_  -- more.go:12
    refine steps_s (s_allocA 5 rfl zer31 fun b5 => ?_)  -- more.go:12
    refine steps_s (s_storeW 5 siz31 rfl rfl rfl rfl rfl rfl ?_)  -- more.go:12
    refine steps_q rfl (q_assign rfl) ?_  -- more.go:12
    refine steps_nil ?_
    refine cw_seq ?_
    refine cw_sr ?_
    refine steps_q rfl (q_move rfl) ?_  -- more.go:13
    refine steps_q rfl (q_bin rfl rfl (neq_t he)) ?_  -- more.go:13
    refine steps_q rfl (q_move rfl) ?_  -- more.go:13
    refine steps_gn rfl rfl rfl rfl ?_  -- more.go:13
    refine steps_gn rfl rfl rfl rfl ?_  -- more.go:13
    refine steps_gn rfl rfl rfl rfl ?_  -- more.go:13
    refine steps_q rfl (q_pick_t rfl rfl) ?_  -- more.go:13
    refine steps_q rfl (q_move rfl) ?_  -- more.go:13
    refine steps_gn rfl rfl rfl rfl ?_  -- more.go:13
    refine steps_gn rfl rfl rfl rfl ?_  -- more.go:13
    refine steps_gn rfl rfl rfl rfl ?_  -- more.go:13
    refine steps_q rfl (q_pick_t rfl rfl) ?_  -- more.go:13
    refine steps_nil ?_
    refine cw_cond _ rfl (fun hc1 => ?_) (fun hc1 => ?_)
    · -- yes 1
      refine cw_sr ?_
      refine steps_q rfl (q_pure ent7 rfl law_awake) ?_  -- more.go:14
      refine steps_q rfl (q_assign rfl) ?_  -- more.go:14
      refine steps_nil ?_
      refine cw_ret ?_
      exact ret_pure rfl (rv_tmp rfl rv_nil) rfl
    · cases hc1
end Go.Proofs.Ytomdahjakkifbaa

/-
  With a point more that is not past it the nearest one is the same, and with one that is past it there is a nearer one: GjkMore answers true and leaves its arguments alone.
  No condition: every input.
-/
namespace Go.Proofs.Ytomdahjakkifbaa
open Go Go.NP Go.RowKit Go.Proofs Go.ChangeShapes Go.WideShapes Go.ChangeAt
set_option maxRecDepth 100000

theorem gjkMore_lifted (os : Os) (started : os.Started) (H : Type) (enc : TypeId × Value → H) :
    ReturnsInHanded {} Try.checked os 5 .any (Rows.gjkMoreSpec.pre6 enc Try.prog Try.f5 Rows.gjkMoreRow.domain false) (Rows.gjkMoreSpec.post enc Try.prog Try.f5 false true false false) := by
  refine returnsInHanded_of_change (C := Try.checked) Try.own started (by kernel_rfl) Try.func5
    (ChangeSpec.witness6 (enc := enc) (C := Try.checked) false ⟨#[], #[.slice none 0 0, .agg #[.int .i64 0, .int .i64 0, .int .i64 0]], []⟩ 8 (by kernel_rfl) (by kernel_rfl) (by kernel_rfl) (by kernel_rfl)) ?_
  intro W base args ds gs before hval0 hW hcnd _
  have hval : ∀ (j : Nat) t v, Try.f5.params[j]? = some t → args[j]? = some v → Value.okWide Try.prog W .any base t v := hval0
  have hW' := hW
  obtain ⟨p, q, hA0, hV, rfl, hfz, hnd⟩ := hW
  have hA : DataW.TrodAll enc Try.prog W 0 (fun _ => true) true Try.f5.params.toList args.toList ds p := hA0
  have hAk := hA
  rw [Try.params5] at hA hval
  obtain ⟨v0, v1, d0, d1, p0, p1, rfl, rfl, rfl, h0, h1⟩ := trodAll_two hA
  obtain ⟨l, hl, hlen⟩ := open_pts (okWide_slice Try.underlying22 (hval 0 22 v0 rfl rfl)) h0
  obtain ⟨cs, rfl, _⟩ := okWide_struct Try.underlying38 (hval 1 38 v1 rfl rfl)
  obtain ⟨fuel, h1⟩ := h1
  obtain ⟨pt, hpt, _⟩ := open_pt h1
  obtain rfl : cs = pt.l.toArray := by
    apply Array.ext'
    simpa [Value.cells] using hpt
  obtain ⟨rfl, rfl⟩ := trodVars_none hV
  clear hA0 hval0
  simp only [List.append_nil] at hW'
  refine (law_GjkMore W hl hlen).mono fun e W' ⟨he, hw⟩ => ?_
  subst he
  exact ⟨_, rfl, law_post (tb := 4) Try.laidOut rfl Try.underlying4 (by kernel_rfl) hW' hAk (by rw [Try.params5]; intro t ht; simp at ht; rcases ht with rfl | rfl <;> exact ⟨by kernel_rfl, of_decide_eq_true (by kernel_rfl)⟩) rfl hw⟩

theorem gjkMore_holds : Rows.GjkMoreSaid :=
  OpenClaim.holds_of_wide 5 Try.f5 rfl rfl rfl rfl rfl rfl rfl ⟨rfl, rfl, rfl, rfl, rfl⟩ rfl rfl rfl rfl rfl (by kernel_rfl) Try.func5 (by kernel_rfl)
    (of_decide_eq_true (by kernel_rfl)) (by unfold Func.isWrapper; first | (rw [if_pos (by decide +kernel)]; kernel_rfl) | (rw [if_neg (by decide +kernel)]; exact ⟨rfl, rfl⟩))
    (fun os started H enc _ => gjkMore_lifted os started H enc)
end Go.Proofs.Ytomdahjakkifbaa
