/-
  The walks of package grid: Dot, Cross, Det; orient.less, simplex.from. Slices that are told to a function: they lie in memory that is old there. The walks of package orient: fine. The walks of package orient: raises. The walks of package orient: Spread, Rank. The walks of package simplex: square, Past. Two fractions, by their whole parts and what is left. The walks of package simplex: Cmp. The walks of package simplex: sum. The walks of package simplex: minor, and its closures.
-/
import Derived.Test.YtomdahjakkifbaaGreatPc

/-
  The walks of package grid: Dot, Cross, Det; orient.less, simplex.from.
-/
namespace Go.Proofs.YtomdahjakkifbaaGreat
open Go Go.NP Go.RowKit Go.Proofs
set_option maxRecDepth 100000

theorem mul_bd {a b A C : Int} (ha : -A ≤ a ∧ a ≤ A) (hb : -C ≤ b ∧ b ≤ C) : -(A * C) ≤ a * b ∧ a * b ≤ A * C := by
  have h1 : 0 ≤ (A - a) * (C - b) := Int.mul_nonneg (by omega) (by omega)
  have h2 : 0 ≤ (A + a) * (C + b) := Int.mul_nonneg (by omega) (by omega)
  have h3 : 0 ≤ (A - a) * (C + b) := Int.mul_nonneg (by omega) (by omega)
  have h4 : 0 ≤ (A + a) * (C - b) := Int.mul_nonneg (by omega) (by omega)
  constructor
  · have : (A - a) * (C + b) + (A + a) * (C - b) = 2 * (A * C) - 2 * (a * b) := by grind
    have : (A - a) * (C - b) + (A + a) * (C + b) = 2 * (A * C) + 2 * (a * b) := by grind
    omega
  · have : (A - a) * (C + b) + (A + a) * (C - b) = 2 * (A * C) - 2 * (a * b) := by grind
    omega
def Sp.In (k : Int) (s : Sp) : Prop := (-k ≤ s.x ∧ s.x ≤ k) ∧ (-k ≤ s.y ∧ s.y ≤ k) ∧ (-k ≤ s.z ∧ s.z ≤ k)
theorem Sp.In.mono {j k : Int} {p : Sp} (h : p.In j) (hk : j ≤ k) : p.In k := by unfold Sp.In at *; omega
theorem Pt.In.sp {k : Int} {p : Pt} (h : p.In k) : p.sp.In k := h
/-- 2^500. -/
def Big : Int := 3273390607896141870013189696827599152216642046043064789483291368096133796404674554883270092325904157150886684127560071009217256545885393053328527589376
theorem fits_big {n : Int} (h : -Big ≤ n ∧ n ≤ Big) : Fits n := by unfold Fits; rw [M512_eq]; unfold Big at h; omega
theorem Sp.In.fits {k : Int} {p : Sp} (h : p.In k) (hk : k ≤ Big) : p.fits := by
  obtain ⟨a, b, c⟩ := h
  exact ⟨fits_big (by omega), fits_big (by omega), fits_big (by omega)⟩
theorem alFits {n : Sp} {p : Pt} {K k : Int} (hn : n.In K) (hp : p.In k) (hK : K ≤ Big) (hk : k ≤ 9223372036854775807) (h3 : 3 * (K * k) ≤ Big) : AlFits n p := by
  obtain ⟨a, b, c⟩ := hn
  obtain ⟨d, e, f⟩ := hp
  have h1 := mul_bd a d
  have h2 := mul_bd b e
  have h4 := mul_bd c f
  refine ⟨⟨fits_big (by omega), fits_big (by omega), fits_big (by omega)⟩, by unfold Pt.In; omega, ?_, ?_⟩
  · intro i hi
    have : i = 0 ∨ i = 1 ∨ i = 2 := by omega
    rcases this with rfl | rfl | rfl <;> simp only [term] <;> exact fits_big (by omega)
  · intro i hi
    have : i = 0 ∨ i = 1 ∨ i = 2 ∨ i = 3 := by omega
    rcases this with rfl | rfl | rfl | rfl <;> simp only [part, term] <;> exact fits_big (by omega)
theorem dotS_bd {n : Sp} {p : Pt} {K k : Int} (hn : n.In K) (hp : p.In k) : -(3 * (K * k)) ≤ dotS n p ∧ dotS n p ≤ 3 * (K * k) := by
  obtain ⟨a, b, c⟩ := hn
  obtain ⟨d, e, f⟩ := hp
  have h1 := mul_bd a d
  have h2 := mul_bd b e
  have h4 := mul_bd c f
  unfold dotS; omega
def crossP (a b : Pt) : Sp := ⟨a.y * b.z - a.z * b.y, a.z * b.x - a.x * b.z, a.x * b.y - a.y * b.x⟩
theorem cross_bd {a b : Pt} {j k : Int} (ha : a.In j) (hb : b.In k) : (crossP a b).In (2 * (j * k)) := by
  obtain ⟨a1, a2, a3⟩ := ha
  obtain ⟨b1, b2, b3⟩ := hb
  have h1 := mul_bd a2 b3
  have h2 := mul_bd a3 b2
  have h3 := mul_bd a3 b1
  have h4 := mul_bd a1 b3
  have h5 := mul_bd a1 b2
  have h6 := mul_bd a2 b1
  unfold Sp.In crossP
  dsimp only
  omega
def subP (a b : Pt) : Pt := ⟨a.x - b.x, a.y - b.y, a.z - b.z⟩
theorem sub_bd {a b : Pt} {j k : Int} (ha : a.In j) (hb : b.In k) : (subP a b).In (j + k) := by
  unfold Pt.In subP at *; dsimp only; omega
/-- What differences of points keep to: 2^40. -/
def P40 : Int := 1099511627776
theorem in40 {p : Pt} (h : p.In P40) : p.In 9223372036854775807 := h.mono (by decide)
theorem bldP (p : Pt) : ∀ w, (Instr.build 47 [(0, Value.int .i64 p.x), (1, Value.int .i64 p.y), (2, Value.int .i64 p.z)].toArray).run Tryz.prog w = .ok (.agg p.l.toArray) w := fun w => by kernel_rfl

theorem grid_Dot {a b : Pt} (ha : a.In P40) (hb : b.In P40) : PureF Tryz.prog 102 [.agg a.l.toArray, .agg b.l.toArray] (.agg (Wl (dotS a.sp b)).toArray) := by
  have hA := alFits (n := a.sp) (p := b) ha hb (by decide) (by decide) (by decide)
  refine pure_of Tryz.func102 rfl Tryz.ntmps102 rfl fun w => ?_
  refine cw_sr ?_
  refine steps_s (s_boxA 2 rfl rfl fun b2 => ?_)  -- grid.go:64
  refine steps_s (s_boxA 3 rfl rfl fun b3 => ?_)  -- grid.go:64
  refine steps_s (s_allocA 4 rfl zer31 fun b4 => ?_)  -- grid.go:64
  refine steps_nil ?_
  refine cw_sd mixed [0, 1, 2, 3, 4, 5, 6] 3 (without _ [5]) (by kernel_rfl) (sub_without _ _) ?_
  refine qi_q rfl rfl (q_loadW 2 agg47 rfl rfl rfl) ?_  -- grid.go:65
  refine qi_q rfl rfl (q_pure ent89 rfl (grid_of (in40 ha))) ?_  -- grid.go:65
  refine qi_q rfl rfl (q_loadW 3 agg47 rfl rfl rfl) ?_  -- grid.go:65
  refine qi_q rfl rfl (q_pure ent57 rfl (grid_Along hA)) ?_  -- grid.go:65
  refine qi_q rfl rfl (q_move rfl) ?_  -- grid.go:65
  refine qi_q rfl rfl (q_extract rfl rfl) ?_  -- grid.go:65
  refine qi_q rfl rfl (q_extract rfl rfl) ?_  -- grid.go:65
  refine qi_nil ?_
  refine tail_one 7 (by kernel_rfl) rfl rfl (s_allocA 5 rfl zer31 fun b5 => ⟨(subl_cons rfl (sub_without _ _)), ?_⟩)  -- grid.go:65
  refine tail_one 8 (by kernel_rfl) rfl rfl (s_storeW 5 siz31 rfl rfl rfl rfl rfl rfl ⟨(subl_cons rfl (subl_cons rfl (sub_without _ _))), ?_⟩)  -- grid.go:65
  refine tail_quiet 9 (by kernel_rfl) rfl rfl rfl (q_assign rfl) ?_  -- grid.go:65
  refine tail_nil (by kernel_rfl) ?_
  refine cw_sr ?_
  refine steps_q rfl (q_loadW 5 agg31 rfl rfl rfl) ?_  -- grid.go:66
  refine steps_s (s_storeW 4 siz31 rfl rfl rfl rfl rfl rfl ?_)  -- grid.go:66
  refine steps_nil ?_
  refine cw_ret ?_
  exact ret_pure rfl (rv_agg 4 agg31 rfl rfl rfl rv_nil) rfl
theorem grid_Cross {a b : Pt} (ha : a.In P40) (hb : b.In P40) : PureF Tryz.prog 138 [.agg a.l.toArray, .agg b.l.toArray] (.agg (crossP a b).l.toArray) := by
  obtain ⟨a1, a2, a3⟩ := ha
  obtain ⟨e1, e2, e3⟩ := hb
  have f : ∀ {x : Int}, -P40 ≤ x ∧ x ≤ P40 → Fits x := fun h => fits_big (by unfold P40 at h; unfold Big; omega)
  have m : ∀ {x y : Int}, -P40 ≤ x ∧ x ≤ P40 → -P40 ≤ y ∧ y ≤ P40 → Fits (x * y) := fun h k => fits_big (by have := mul_bd h k; unfold P40 at this; unfold Big; omega)
  have s : ∀ {x y u v : Int}, -P40 ≤ x ∧ x ≤ P40 → -P40 ≤ y ∧ y ≤ P40 → -P40 ≤ u ∧ u ≤ P40 → -P40 ≤ v ∧ v ≤ P40 → Fits (x * y - u * v) := fun h k i j => fits_big (by have := mul_bd h k; have := mul_bd i j; unfold P40 at *; unfold Big; omega)
  refine pure_of Tryz.func138 rfl Tryz.ntmps138 rfl fun w => ?_
  refine cw_sr ?_
  refine steps_s (s_boxA 2 rfl rfl fun b2 => ?_)  -- grid.go:70
  refine steps_s (s_boxA 3 rfl rfl fun b3 => ?_)  -- grid.go:70
  refine steps_s (s_allocA 4 rfl zer33 fun b4 => ?_)  -- grid.go:70
  refine steps_nil ?_
  refine cw_sd mixed [0, 1, 2, 3] 4 (without _ [5, 6]) (by kernel_rfl) (sub_without _ _) ?_
  refine qi_q rfl rfl (q_loadW 2 agg47 rfl rfl rfl) ?_  -- grid.go:71
  refine qi_q rfl rfl (q_pure ent89 rfl (grid_of (in40 ⟨a1, a2, a3⟩))) ?_  -- grid.go:71
  refine qi_q rfl rfl (q_loadW 3 agg47 rfl rfl rfl) ?_  -- grid.go:71
  refine qi_q rfl rfl (q_pure ent89 rfl (grid_of (in40 ⟨e1, e2, e3⟩))) ?_  -- grid.go:71
  refine qi_nil ?_
  refine tail_alloc2 4 5 (by kernel_rfl) rfl rfl zer33 rfl zer33 rfl (sub_without _ _) rfl rfl (fun h => CW.weaken h) fun b5 b6 => ?_
  refine tail_one 6 (by kernel_rfl) rfl rfl (s_storeW 5 siz33 rfl rfl rfl rfl rfl rfl ⟨(subl_cons rfl (subl_cons rfl (subl_cons rfl (sub_without _ _)))), ?_⟩)  -- grid.go:71
  refine tail_one 7 (by kernel_rfl) rfl rfl (s_storeW 6 siz33 rfl rfl rfl rfl rfl rfl ⟨(subl_cons rfl (subl_cons rfl (subl_cons rfl (subl_cons rfl (sub_without _ _))))), ?_⟩)  -- grid.go:71
  refine tail_nil (by kernel_rfl) ?_
  refine cw_sd mixed [0, 1, 2, 3, 4, 5, 6, 7, 8, 9, 10, 11, 12, 13, 14, 15, 16, 17, 18, 19, 20, 21, 22, 23, 24, 25, 26, 27, 28, 29, 30, 31, 32, 33] 1 (without _ [4]) (by kernel_rfl) (sub_without _ _) ?_
  refine qi_q rfl rfl (q_field fld33_1 rfl) ?_  -- grid.go:72
  refine qi_q rfl rfl (q_loadA 5 agg31 rfl rfl (sp1 a.sp)) ?_  -- grid.go:72
  refine qi_q rfl rfl (q_field fld33_2 rfl) ?_  -- grid.go:72
  refine qi_q rfl rfl (q_loadA 6 agg31 rfl rfl (sp2 b.sp)) ?_  -- grid.go:72
  refine qi_q rfl rfl (q_pure ent163 rfl (grid_times (f a2) (f e3) (m a2 e3))) ?_  -- grid.go:72
  refine qi_q rfl rfl (q_field fld33_2 rfl) ?_  -- grid.go:72
  refine qi_q rfl rfl (q_loadA 5 agg31 rfl rfl (sp2 a.sp)) ?_  -- grid.go:72
  refine qi_q rfl rfl (q_field fld33_1 rfl) ?_  -- grid.go:72
  refine qi_q rfl rfl (q_loadA 6 agg31 rfl rfl (sp1 b.sp)) ?_  -- grid.go:72
  refine qi_q rfl rfl (q_pure ent163 rfl (grid_times (f a3) (f e2) (m a3 e2))) ?_  -- grid.go:72
  refine qi_q rfl rfl (q_pure ent162 rfl (grid_less (m a2 e3) (m a3 e2) (s a2 e3 a3 e2))) ?_  -- grid.go:72
  refine qi_q rfl rfl (q_field fld33_2 rfl) ?_  -- grid.go:72
  refine qi_q rfl rfl (q_loadA 5 agg31 rfl rfl (sp2 a.sp)) ?_  -- grid.go:72
  refine qi_q rfl rfl (q_field fld33_0 rfl) ?_  -- grid.go:72
  refine qi_q rfl rfl (q_loadA 6 agg31 rfl rfl (sp0 b.sp)) ?_  -- grid.go:72
  refine qi_q rfl rfl (q_pure ent163 rfl (grid_times (f a3) (f e1) (m a3 e1))) ?_  -- grid.go:72
  refine qi_q rfl rfl (q_field fld33_0 rfl) ?_  -- grid.go:72
  refine qi_q rfl rfl (q_loadA 5 agg31 rfl rfl (sp0 a.sp)) ?_  -- grid.go:72
  refine qi_q rfl rfl (q_field fld33_2 rfl) ?_  -- grid.go:72
  refine qi_q rfl rfl (q_loadA 6 agg31 rfl rfl (sp2 b.sp)) ?_  -- grid.go:72
  refine qi_q rfl rfl (q_pure ent163 rfl (grid_times (f a1) (f e3) (m a1 e3))) ?_  -- grid.go:72
  refine qi_q rfl rfl (q_pure ent162 rfl (grid_less (m a3 e1) (m a1 e3) (s a3 e1 a1 e3))) ?_  -- grid.go:72
  refine qi_q rfl rfl (q_field fld33_0 rfl) ?_  -- grid.go:72
  refine qi_q rfl rfl (q_loadA 5 agg31 rfl rfl (sp0 a.sp)) ?_  -- grid.go:72
  refine qi_q rfl rfl (q_field fld33_1 rfl) ?_  -- grid.go:72
  refine qi_q rfl rfl (q_loadA 6 agg31 rfl rfl (sp1 b.sp)) ?_  -- grid.go:72
  refine qi_q rfl rfl (q_pure ent163 rfl (grid_times (f a1) (f e2) (m a1 e2))) ?_  -- grid.go:72
  refine qi_q rfl rfl (q_field fld33_1 rfl) ?_  -- grid.go:72
  refine qi_q rfl rfl (q_loadA 5 agg31 rfl rfl (sp1 a.sp)) ?_  -- grid.go:72
  refine qi_q rfl rfl (q_field fld33_0 rfl) ?_  -- grid.go:72
  refine qi_q rfl rfl (q_loadA 6 agg31 rfl rfl (sp0 b.sp)) ?_  -- grid.go:72
  refine qi_q rfl rfl (q_pure ent163 rfl (grid_times (f a2) (f e1) (m a2 e1))) ?_  -- grid.go:72
  refine qi_q rfl rfl (q_pure ent162 rfl (grid_less (m a1 e2) (m a2 e1) (s a1 e2 a2 e1))) ?_  -- grid.go:72
  refine qi_q rfl rfl (q_build (vs := [(0, _), (1, _), (2, _)]) rfl rfl (bldS (crossP a b))) ?_  -- grid.go:72
  refine qi_nil ?_
  refine tail_one 34 (by kernel_rfl) rfl rfl (s_storeW 4 siz33 rfl rfl rfl rfl rfl rfl ⟨(subl_cons rfl (sub_without _ _)), ?_⟩)  -- grid.go:72
  refine tail_nil (by kernel_rfl) ?_
  refine cw_ret ?_
  exact ret_pure rfl (rv_agg 4 agg33 rfl rfl rfl rv_nil) rfl
theorem grid_Det {a b c : Pt} (ha : a.In P40) (hb : b.In P40) (hc : c.In P40) : PureF Tryz.prog 140 [.agg a.l.toArray, .agg b.l.toArray, .agg c.l.toArray] (.agg (Wl (dotS (crossP b c) a)).toArray) := by
  have hA := alFits (cross_bd hb hc) ha (by decide) (by decide) (by decide)
  refine pure_of Tryz.func140 rfl Tryz.ntmps140 rfl fun w => ?_
  refine cw_sr ?_
  refine steps_s (s_boxA 3 rfl rfl fun b3 => ?_)  -- grid.go:76
  refine steps_s (s_boxA 4 rfl rfl fun b4 => ?_)  -- grid.go:76
  refine steps_s (s_boxA 5 rfl rfl fun b5 => ?_)  -- grid.go:76
  refine steps_s (s_allocA 6 rfl zer31 fun b6 => ?_)  -- grid.go:76
  refine steps_nil ?_
  refine cw_sd mixed [0, 1, 2, 3, 4, 5, 6, 7] 3 (without _ [7]) (by kernel_rfl) (sub_without _ _) ?_
  refine qi_q rfl rfl (q_loadW 4 agg47 rfl rfl rfl) ?_  -- grid.go:77
  refine qi_q rfl rfl (q_loadW 5 agg47 rfl rfl rfl) ?_  -- grid.go:77
  refine qi_q rfl rfl (q_pure ent138 rfl (grid_Cross hb hc)) ?_  -- grid.go:77
  refine qi_q rfl rfl (q_loadW 3 agg47 rfl rfl rfl) ?_  -- grid.go:77
  refine qi_q rfl rfl (q_pure ent57 rfl (grid_Along hA)) ?_  -- grid.go:77
  refine qi_q rfl rfl (q_move rfl) ?_  -- grid.go:77
  refine qi_q rfl rfl (q_extract rfl rfl) ?_  -- grid.go:77
  refine qi_q rfl rfl (q_extract rfl rfl) ?_  -- grid.go:77
  refine qi_nil ?_
  refine tail_one 8 (by kernel_rfl) rfl rfl (s_allocA 7 rfl zer31 fun b7 => ⟨(subl_cons rfl (sub_without _ _)), ?_⟩)  -- grid.go:77
  refine tail_one 9 (by kernel_rfl) rfl rfl (s_storeW 7 siz31 rfl rfl rfl rfl rfl rfl ⟨(subl_cons rfl (subl_cons rfl (sub_without _ _))), ?_⟩)  -- grid.go:77
  refine tail_quiet 10 (by kernel_rfl) rfl rfl rfl (q_assign rfl) ?_  -- grid.go:77
  refine tail_nil (by kernel_rfl) ?_
  refine cw_sr ?_
  refine steps_q rfl (q_loadW 7 agg31 rfl rfl rfl) ?_  -- grid.go:78
  refine steps_s (s_storeW 6 siz31 rfl rfl rfl rfl rfl rfl ?_)  -- grid.go:78
  refine steps_nil ?_
  refine cw_ret ?_
  exact ret_pure rfl (rv_agg 6 agg31 rfl rfl rfl rv_nil) rfl
theorem orient_less {a b : Pt} (ha : a.In P40) (hb : b.In P40) : PureF Tryz.prog 139 [.agg a.l.toArray, .agg b.l.toArray] (.agg (subP a b).l.toArray) := by
  obtain ⟨a1, a2, a3⟩ := ha
  obtain ⟨b1, b2, b3⟩ := hb
  unfold P40 at *
  refine pure_of Tryz.func139 rfl Tryz.ntmps139 rfl fun w => ?_
  refine cw_sr ?_
  refine steps_s (s_boxA 2 rfl rfl fun b2 => ?_)  -- orient.go:21
  refine steps_s (s_boxA 3 rfl rfl fun b3 => ?_)  -- orient.go:21
  refine steps_s (s_allocA 4 rfl zer47 fun b4 => ?_)  -- orient.go:21
  refine steps_nil ?_
  refine cw_sr ?_
  refine steps_q rfl (q_field fld47_0 rfl) ?_  -- orient.go:22
  refine steps_q rfl (q_load1 2 one2 rfl rfl rfl) ?_  -- orient.go:22
  refine steps_q rfl (q_field fld47_0 rfl) ?_  -- orient.go:22
  refine steps_q rfl (q_load1 3 one2 rfl rfl rfl) ?_  -- orient.go:22
  refine steps_q rfl (q_bin rfl rfl (sub64 (by omega) (by omega))) ?_  -- orient.go:22
  refine steps_q rfl (q_field fld47_1 rfl) ?_  -- orient.go:22
  refine steps_q rfl (q_load1 2 one2 rfl rfl rfl) ?_  -- orient.go:22
  refine steps_q rfl (q_field fld47_1 rfl) ?_  -- orient.go:22
  refine steps_q rfl (q_load1 3 one2 rfl rfl rfl) ?_  -- orient.go:22
  refine steps_q rfl (q_bin rfl rfl (sub64 (by omega) (by omega))) ?_  -- orient.go:22
  refine steps_q rfl (q_field fld47_2 rfl) ?_  -- orient.go:22
  refine steps_q rfl (q_load1 2 one2 rfl rfl rfl) ?_  -- orient.go:22
  refine steps_q rfl (q_field fld47_2 rfl) ?_  -- orient.go:22
  refine steps_q rfl (q_load1 3 one2 rfl rfl rfl) ?_  -- orient.go:22
  refine steps_q rfl (q_bin rfl rfl (sub64 (by omega) (by omega))) ?_  -- orient.go:22
  refine steps_q rfl (q_build (vs := [(0, _), (1, _), (2, _)]) rfl rfl (bldP (subP a b))) ?_  -- orient.go:22
  refine steps_s (s_storeW 4 siz47 rfl rfl rfl rfl rfl rfl ?_)  -- orient.go:22
  refine steps_nil ?_
  refine cw_ret ?_
  exact ret_pure rfl (rv_agg 4 agg47 rfl rfl rfl rv_nil) rfl
theorem simplex_from {a b : Pt} (ha : a.In P40) (hb : b.In P40) : PureF Tryz.prog 100 [.agg a.l.toArray, .agg b.l.toArray] (.agg (subP a b).l.toArray) := by
  obtain ⟨a1, a2, a3⟩ := ha
  obtain ⟨b1, b2, b3⟩ := hb
  unfold P40 at *
  refine pure_of Tryz.func100 rfl Tryz.ntmps100 rfl fun w => ?_
  refine cw_sr ?_
  refine steps_s (s_boxA 2 rfl rfl fun b2 => ?_)  -- simplex.go:31
  refine steps_s (s_boxA 3 rfl rfl fun b3 => ?_)  -- simplex.go:31
  refine steps_s (s_allocA 4 rfl zer47 fun b4 => ?_)  -- simplex.go:31
  refine steps_nil ?_
  refine cw_sr ?_
  refine steps_q rfl (q_field fld47_0 rfl) ?_  -- simplex.go:32
  refine steps_q rfl (q_load1 2 one2 rfl rfl rfl) ?_  -- simplex.go:32
  refine steps_q rfl (q_field fld47_0 rfl) ?_  -- simplex.go:32
  refine steps_q rfl (q_load1 3 one2 rfl rfl rfl) ?_  -- simplex.go:32
  refine steps_q rfl (q_bin rfl rfl (sub64 (by omega) (by omega))) ?_  -- simplex.go:32
  refine steps_q rfl (q_field fld47_1 rfl) ?_  -- simplex.go:32
  refine steps_q rfl (q_load1 2 one2 rfl rfl rfl) ?_  -- simplex.go:32
  refine steps_q rfl (q_field fld47_1 rfl) ?_  -- simplex.go:32
  refine steps_q rfl (q_load1 3 one2 rfl rfl rfl) ?_  -- simplex.go:32
  refine steps_q rfl (q_bin rfl rfl (sub64 (by omega) (by omega))) ?_  -- simplex.go:32
  refine steps_q rfl (q_field fld47_2 rfl) ?_  -- simplex.go:32
  refine steps_q rfl (q_load1 2 one2 rfl rfl rfl) ?_  -- simplex.go:32
  refine steps_q rfl (q_field fld47_2 rfl) ?_  -- simplex.go:32
  refine steps_q rfl (q_load1 3 one2 rfl rfl rfl) ?_  -- simplex.go:32
  refine steps_q rfl (q_bin rfl rfl (sub64 (by omega) (by omega))) ?_  -- simplex.go:32
  refine steps_q rfl (q_build (vs := [(0, _), (1, _), (2, _)]) rfl rfl (bldP (subP a b))) ?_  -- simplex.go:32
  refine steps_s (s_storeW 4 siz47 rfl rfl rfl rfl rfl rfl ?_)  -- simplex.go:32
  refine steps_nil ?_
  refine cw_ret ?_
  exact ret_pure rfl (rv_agg 4 agg47 rfl rfl rfl rv_nil) rfl
theorem simplex_times {a b : Int} (ha : Fits a) (hb : Fits b) (h : Fits (a * b)) : PureF Tryz.prog 93 [.agg (Wl a).toArray, .agg (Wl b).toArray] (.agg (Wl (a * b)).toArray) := by
  refine pure_of Tryz.func93 rfl Tryz.ntmps93 rfl fun w => ?_
  refine cw_sr ?_
  refine steps_s (s_boxA 2 rfl rfl fun b2 => ?_)  -- simplex.go:15
  refine steps_s (s_boxA 3 rfl rfl fun b3 => ?_)  -- simplex.go:15
  refine steps_s (s_allocA 4 rfl zer31 fun b4 => ?_)  -- simplex.go:15
  refine steps_nil ?_
  refine cw_sr ?_
  refine steps_q rfl (q_loadW 2 agg31 rfl rfl rfl) ?_  -- simplex.go:16
  refine steps_q rfl (q_loadW 3 agg31 rfl rfl rfl) ?_  -- simplex.go:16
  refine steps_q rfl (q_pure ent90 rfl (wide_Mul a b ha hb h)) ?_  -- simplex.go:16
  refine steps_q rfl (q_move rfl) ?_  -- simplex.go:16
  refine steps_q rfl (q_extract rfl rfl) ?_  -- simplex.go:16
  refine steps_q rfl (q_extract rfl rfl) ?_  -- simplex.go:16
  refine steps_s (s_allocA 5 rfl zer31 fun b5 => ?_)  -- simplex.go:16
  refine steps_s (s_storeW 5 siz31 rfl rfl rfl rfl rfl rfl ?_)  -- simplex.go:16
  refine steps_q rfl (q_assign rfl) ?_  -- simplex.go:16
  refine steps_nil ?_
  refine cw_sr ?_
  refine steps_q rfl (q_loadW 5 agg31 rfl rfl rfl) ?_  -- simplex.go:17
  refine steps_s (s_storeW 4 siz31 rfl rfl rfl rfl rfl rfl ?_)  -- simplex.go:17
  refine steps_nil ?_
  refine cw_ret ?_
  exact ret_pure rfl (rv_agg 4 agg31 rfl rfl rfl rv_nil) rfl
theorem simplex_less {a b : Int} (ha : Fits a) (hb : Fits b) (h : Fits (a - b)) : PureF Tryz.prog 104 [.agg (Wl a).toArray, .agg (Wl b).toArray] (.agg (Wl (a - b)).toArray) := by
  refine pure_of Tryz.func104 rfl Tryz.ntmps104 rfl fun w => ?_
  refine cw_sr ?_
  refine steps_s (s_boxA 2 rfl rfl fun b2 => ?_)  -- simplex.go:25
  refine steps_s (s_boxA 3 rfl rfl fun b3 => ?_)  -- simplex.go:25
  refine steps_s (s_allocA 4 rfl zer31 fun b4 => ?_)  -- simplex.go:25
  refine steps_nil ?_
  refine cw_sr ?_
  refine steps_q rfl (q_loadW 2 agg31 rfl rfl rfl) ?_  -- simplex.go:26
  refine steps_q rfl (q_loadW 3 agg31 rfl rfl rfl) ?_  -- simplex.go:26
  refine steps_q rfl (q_pure ent49 rfl (wide_Sub ha hb h)) ?_  -- simplex.go:26
  refine steps_q rfl (q_move rfl) ?_  -- simplex.go:26
  refine steps_q rfl (q_extract rfl rfl) ?_  -- simplex.go:26
  refine steps_q rfl (q_extract rfl rfl) ?_  -- simplex.go:26
  refine steps_s (s_allocA 5 rfl zer31 fun b5 => ?_)  -- simplex.go:26
  refine steps_s (s_storeW 5 siz31 rfl rfl rfl rfl rfl rfl ?_)  -- simplex.go:26
  refine steps_q rfl (q_assign rfl) ?_  -- simplex.go:26
  refine steps_nil ?_
  refine cw_sr ?_
  refine steps_q rfl (q_loadW 5 agg31 rfl rfl rfl) ?_  -- simplex.go:27
  refine steps_s (s_storeW 4 siz31 rfl rfl rfl rfl rfl rfl ?_)  -- simplex.go:27
  refine steps_nil ?_
  refine cw_ret ?_
  exact ret_pure rfl (rv_agg 4 agg31 rfl rfl rfl rv_nil) rfl
theorem simplex_plus {a b : Int} (ha : Fits a) (hb : Fits b) (h : Fits (a + b)) : PureF Tryz.prog 105 [.agg (Wl a).toArray, .agg (Wl b).toArray] (.agg (Wl (a + b)).toArray) := by
  refine pure_of Tryz.func105 rfl Tryz.ntmps105 rfl fun w => ?_
  refine cw_sr ?_
  refine steps_s (s_boxA 2 rfl rfl fun b2 => ?_)  -- simplex.go:20
  refine steps_s (s_boxA 3 rfl rfl fun b3 => ?_)  -- simplex.go:20
  refine steps_s (s_allocA 4 rfl zer31 fun b4 => ?_)  -- simplex.go:20
  refine steps_nil ?_
  refine cw_sr ?_
  refine steps_q rfl (q_loadW 2 agg31 rfl rfl rfl) ?_  -- simplex.go:21
  refine steps_q rfl (q_loadW 3 agg31 rfl rfl rfl) ?_  -- simplex.go:21
  refine steps_q rfl (q_pure ent91 rfl (wide_Add ha hb h)) ?_  -- simplex.go:21
  refine steps_q rfl (q_move rfl) ?_  -- simplex.go:21
  refine steps_q rfl (q_extract rfl rfl) ?_  -- simplex.go:21
  refine steps_q rfl (q_extract rfl rfl) ?_  -- simplex.go:21
  refine steps_s (s_allocA 5 rfl zer31 fun b5 => ?_)  -- simplex.go:21
  refine steps_s (s_storeW 5 siz31 rfl rfl rfl rfl rfl rfl ?_)  -- simplex.go:21
  refine steps_q rfl (q_assign rfl) ?_  -- simplex.go:21
  refine steps_nil ?_
  refine cw_sr ?_
  refine steps_q rfl (q_loadW 5 agg31 rfl rfl rfl) ?_  -- simplex.go:22
  refine steps_s (s_storeW 4 siz31 rfl rfl rfl rfl rfl rfl ?_)  -- simplex.go:22
  refine steps_nil ?_
  refine cw_ret ?_
  exact ret_pure rfl (rv_agg 4 agg31 rfl rfl rfl rv_nil) rfl
end Go.Proofs.YtomdahjakkifbaaGreat

/-
  Slices that are told to a function: they lie in memory that is old there.
-/
namespace Go.NP
open Go Go.RowKit

/-- v is a slice of these elements, each of s cells (in a row of whatever make). -/
def SlAt (w : World) (_e : TypeId) (s : Nat) (v : Value) (xs : List (List Value)) : Prop :=
  ∃ a c, v = .slice a xs.length c ∧ (xs = [] ∨ ∃ (b off : Nat) (l : List Value) (fz : TypeId × Nat × Nat), a = some ⟨b, off, none⟩ ∧ w.heap[b]? = some (.cells l.toArray fz.1 fz.2) ∧ ∀ k x, xs[k]? = some x → Part l (off + k * s) s x)
theorem SlAt.below {w w' : World} {e : TypeId} {s : Nat} {v : Value} {xs : List (List Value)} (h : SlAt w e s v xs) (hb : Below w.heap.size w w') : SlAt w' e s v xs := by
  obtain ⟨a, c, h1, h2⟩ := h
  refine ⟨a, c, h1, h2.imp_right fun ⟨b, off, l, fz, q1, q2, q3⟩ => ⟨b, off, l, fz, q1, ?_, q3⟩⟩
  rw [hb.block b (Array.getElem?_eq_some_iff.1 q2).1]; exact q2
theorem SlAt.nil (w : World) (e : TypeId) (s : Nat) (a : Option Addr) (c : Nat) : SlAt w e s (.slice a 0 c) [] := ⟨a, c, rfl, .inl rfl⟩
theorem SlAt.own {w0 w : World} {M : List Nat} {L : HL} {i : Nat} {e : TypeId} {s : Nat} {q : SV} {xs : List (List Value)} (h : St w0 M w L) (hl : SubL (q.l i e) L) (hk : q.ok s xs) : SlAt w e s (q.v xs.length) xs := by
  cases q with
  | none => simp only [SV.ok] at hk; subst hk; exact ⟨_, _, rfl, .inl rfl⟩
  | some q =>
    obtain ⟨g, cur, cap⟩ := q
    exact ⟨_, _, rfl, .inr ⟨g, 0, cur, (e, 0, 0), rfl, (h.known i g _ (hl i _ (by simp [look]))).1, fun k x hx => SV.part hk hx⟩⟩
/-- In a walk whose old memory holds it, nothing of which is turned. -/
theorem SlAt.st {w0 w : World} {L : HL} {e : TypeId} {s : Nat} {v : Value} {xs : List (List Value)} (h : SlAt w0 e s v xs) (hw : St w0 [] w L) : SlAt w e s v xs := h.below hw.below
end Go.NP

/-
  The walks of package orient: fine.
-/
namespace Go.Proofs.YtomdahjakkifbaaGreat
open Go Go.NP Go.RowKit Go.Proofs
set_option maxRecDepth 100000

/-- v is a slice of these points. -/
def PtsAt (w : World) (v : Value) (ps : List Pt) : Prop := SlAt w 47 3 v (ps.map Pt.l)
def okPts (ps : List Pt) : Prop := ∀ p ∈ ps, p.In 268435456
instance (ps : List Pt) : Decidable (okPts ps) := by unfold okPts; exact inferInstance
theorem errP_ne (p : Pt) : (errP p != 0) = !decide (p.In 268435456) := by unfold errP; split <;> simp [*]

theorem orient_fine {ps : List Pt} {v : Value} (w : World) (h : PtsAt w v ps) (hlen : ps.length ≤ 1000000) :
    Calls Tryz.prog 98 #[v] w fun e w' => e = .returned (.bool (decide (okPts ps))) ∧ Below w.heap.size w w' := by
  obtain ⟨a, c, rfl, hsl⟩ := h
  rw [List.length_map]
  refine calls_of Tryz.func98 rfl Tryz.ntmps98 rfl (St.start w) (args := [.slice a ps.length c]) ?_
  refine cw_sr ?_
  refine steps_q rfl (q_assign rfl) ?_  -- orient.go:11
  refine steps_nil ?_
  refine cw_seq ?_
  refine cw_sr ?_
  refine steps_q rfl (q_move rfl) ?_  -- orient.go:12
  refine steps_q rfl (q_lenSl Tryz.underlying22 rfl) ?_  -- orient.go:12
  refine steps_q rfl (q_move rfl) ?_  -- orient.go:12
  refine steps_nil ?_
  refine cw_block ?_
  -- LOOP 1 writes [4, 7, 8, 9, 10, 11, 12, 13, 14]  stores via [4]  reads [5, 6]
  refine cw_loop (S := Int) (fun s => [(5, .slice a ps.length c), (6, .int .i64 ps.length), (7, .int .i64 s)]) (fun _ => []) (fun s => 0 ≤ s ∧ s ≤ ps.length ∧ ∀ (k : Nat) (p : Pt), ps[k]? = some p → (k : Int) < s → p.In 268435456) (fun s => (ps.length - s).toNat) 0 ⟨by omega, by omega, fun k p _ hk => by omega⟩ (subs ⟨rfl, rfl, rfl, trivial⟩) (subs trivial) ?_
  intro i ⟨hi0, hi1, hz⟩
  refine cw_sr ?_
  refine steps_q rfl (q_bin rfl rfl rfl) ?_  -- orient.go:12
  refine steps_nil ?_
  refine cw_seq ?_
  refine cw_cond _ rfl (fun hc1 => ?_) (fun hc1 => ?_)
  · -- yes 1
    have hc : i < ps.length := of_decide_eq_true hc1
    obtain ⟨p, hp⟩ : ∃ p, ps[i.toNat]? = some p := ⟨ps[i.toNat]'(by omega), List.getElem?_eq_getElem (by omega)⟩
    have hpl : (ps.map Pt.l)[i.toNat]? = some p.l := by rw [List.getElem?_map, hp]; rfl
    obtain ⟨b, off, l, fz, rfl, hb, hpt⟩ := hsl.resolve_left (by intro h; rw [h] at hpl; simp at hpl)
    refine cw_skip ?_
    refine at_then ?_
    refine cw_seq ?_
    refine cw_block ?_
    refine cw_sr ?_
    refine steps_q rfl (q_indexSl slc22 rfl rfl hi0 hc) ?_  -- orient.go:12
    refine steps_q rfl (q_loadAo agg47 rfl hb (by simp) (hpt _ _ hpl)) ?_  -- orient.go:12
    refine steps_s (s_allocA 4 rfl zer47 fun b4 => ?_)  -- orient.go:12
    refine steps_s (s_storeW 4 siz47 rfl rfl rfl rfl rfl rfl ?_)  -- orient.go:12
    refine steps_nil ?_
    refine cw_sr ?_
    refine steps_q rfl (q_loadW 4 agg47 rfl rfl rfl) ?_  -- orient.go:13
    refine steps_q rfl (q_pure ent16 rfl (grid_Check p)) ?_  -- orient.go:13
    refine steps_q rfl (q_bin rfl rfl (congrArg (fun b => some (Value.bool b)) (errP_ne p))) ?_  -- orient.go:13
    refine steps_nil ?_
    refine cw_cond _ rfl (fun hc2 => ?_) (fun hc2 => ?_)
    · -- yes 2
      have hn : ¬ p.In 268435456 := by simpa using hc2
      have e : decide (okPts ps) = false := decide_eq_false fun h => hn (h p (List.mem_of_getElem? hp))
      refine cw_sr ?_
      refine steps_q rfl (q_assign rfl) ?_  -- orient.go:14
      refine steps_nil ?_
      refine cw_ret ?_
      rw [e]
      exact ret_pure rfl (rv_tmp rfl rv_nil) rfl
    · -- no 2
      have hn : p.In 268435456 := by simpa using hc2
      have hz' : ∀ (k : Nat) (q : Pt), ps[k]? = some q → (k : Int) < i + 1 → q.In 268435456 := fun k q hq hk => by
        by_cases hki : k = i.toNat
        · subst hki; rw [hp] at hq; cases hq; exact hn
        · exact hz k q hq (by omega)
      refine cw_skip ?_
      refine at_then ?_
      refine cw_region ?_
      refine steps_q rfl (q_bin rfl rfl (add64 (by omega) (by omega))) ?_  -- orient.go:12
      refine steps_q rfl (q_move rfl) ?_  -- orient.go:12
      refine steps_nil ?_
      exact at_round _ ⟨by omega, by omega, hz'⟩ (by omega) (subs ⟨rfl, rfl, rfl, trivial⟩) (subs trivial)
  · -- no 1
    have hc : ¬ i < ps.length := of_decide_eq_false hc1
    have e : decide (okPts ps) = true := decide_eq_true fun p hp => by
      obtain ⟨k, hk, he⟩ := List.getElem_of_mem hp
      exact hz k p (by rw [List.getElem?_eq_getElem hk, he]) (by omega)
    refine cw_exit ?_
    refine at_then ?_
    refine cw_sr ?_
    refine steps_q rfl (q_assign rfl) ?_  -- orient.go:17
    refine steps_nil ?_
    refine cw_ret ?_
    rw [e]
    exact ret_pure rfl (rv_tmp rfl rv_nil) rfl
end Go.Proofs.YtomdahjakkifbaaGreat

/-
  The walks of package orient: raises.
-/
namespace Go.Proofs.YtomdahjakkifbaaGreat
open Go Go.NP Go.RowKit Go.Proofs
set_option maxRecDepth 100000

/-- Does a point raise the rank? -/
def raisesB : List Pt → Pt → Bool
  | [], _ => true
  | [a], p => !decide (p = a)
  | [a, b], p => !decide (crossP (subP b a) (subP p a) = ⟨0, 0, 0⟩)
  | [a, b, c], p => !decide (dotS (crossP (subP c a) (subP p a)) (subP b a) = 0)
  | _, _ => false
theorem bldS0 : ∀ w, (Instr.build 33 #[]).run Tryz.prog w = .ok (.agg (Sp.l ⟨0, 0, 0⟩).toArray) w := fun w => by kernel_rfl
theorem z3fits : (⟨0, 0, 0⟩ : Sp).fits := ⟨fits0, fits0, fits0⟩
theorem bd_big {x k : Int} (h : -k ≤ x ∧ x ≤ k) (hk : k ≤ Big) : -Big ≤ x ∧ x ≤ Big := by omega
theorem sgnI_ne (x : Int) : (sgnI x != 0) = !decide (x = 0) := by
  unfold sgnI
  by_cases h1 : x < 0
  · rw [if_pos h1]; simp; omega
  · rw [if_neg h1]
    by_cases h2 : x = 0
    · simp [h2]
    · rw [if_neg h2]; simp [h2]
section
variable {w : World} {bt : Nat} {v : Value} {p : Pt}
abbrev Raises (w : World) (bt : Nat) (p : Pt) (b : Bool) : Prop := Calls Tryz.prog 97 #[.pointer (some ⟨bt, 0, none⟩), .agg p.l.toArray] w fun e w' => e = .returned (.bool b) ∧ Below w.heap.size w w'

theorem raises0 (hbt : w.heap[bt]? = some (.cells [v].toArray 134 (0, 0))) (h : PtsAt w v []) : Raises w bt p true := by
  obtain ⟨a0, c0, hv, -⟩ := h
  obtain rfl : v = .slice a0 0 c0 := hv
  refine calls_of Tryz.func97 rfl Tryz.ntmps97 rfl (St.start w) (args := [.pointer (some ⟨bt, 0, none⟩), .agg p.l.toArray]) ?_
  refine cw_sr ?_
  refine steps_s (s_boxA 3 rfl rfl fun b3 => ?_)  -- orient.go:37
  refine steps_q rfl (q_assign rfl) ?_  -- orient.go:37
  refine steps_nil ?_
  refine cw_seq ?_
  refine cw_sr ?_
  refine steps_q rfl (q_move rfl) ?_  -- orient.go:38
  refine steps_q rfl (q_nilck rfl) ?_  -- orient.go:38
  refine steps_q rfl (q_field fld134_0 rfl) ?_  -- orient.go:38
  refine steps_q rfl (q_load1o one22 rfl hbt (by simp) rfl) ?_  -- orient.go:38
  refine steps_q rfl (q_lenSl Tryz.underlying22 rfl) ?_  -- orient.go:38
  refine steps_nil ?_
  refine cw_block ?_
  refine cw_sr ?_
  refine steps_q rfl (q_bin rfl rfl rfl) ?_  -- orient.go:39
  refine steps_q rfl (q_assign rfl) ?_  -- orient.go:39
  refine steps_nil ?_
  refine cw_cond _ rfl (fun hc1 => ?_) (fun hc1 => ?_)
  · -- yes 1
    refine cw_sr ?_
    refine steps_q rfl (q_assign rfl) ?_  -- orient.go:40
    refine steps_nil ?_
    refine cw_ret ?_
    exact ret_pure rfl (rv_tmp rfl rv_nil) rfl
  · cases hc1

theorem raises1 {a : Pt} (hbt : w.heap[bt]? = some (.cells [v].toArray 134 (0, 0))) (h : PtsAt w v [a]) : Raises w bt p (!decide (p = a)) := by
  obtain ⟨a0, c0, hv, hs⟩ := h
  obtain ⟨bl, off, l, fz, rfl, hb, hpt⟩ := hs.resolve_left (by simp)
  obtain rfl : v = .slice (some ⟨bl, off, none⟩) 1 c0 := hv
  refine calls_of Tryz.func97 rfl Tryz.ntmps97 rfl (St.start w) (args := [.pointer (some ⟨bt, 0, none⟩), .agg p.l.toArray]) ?_
  refine cw_sr ?_
  refine steps_s (s_boxA 3 rfl rfl fun b3 => ?_)  -- orient.go:37
  refine steps_q rfl (q_assign rfl) ?_  -- orient.go:37
  refine steps_nil ?_
  refine cw_seq ?_
  refine cw_sr ?_
  refine steps_q rfl (q_move rfl) ?_  -- orient.go:38
  refine steps_q rfl (q_nilck rfl) ?_  -- orient.go:38
  refine steps_q rfl (q_field fld134_0 rfl) ?_  -- orient.go:38
  refine steps_q rfl (q_load1o one22 rfl hbt (by simp) rfl) ?_  -- orient.go:38
  refine steps_q rfl (q_lenSl Tryz.underlying22 rfl) ?_  -- orient.go:38
  refine steps_nil ?_
  refine cw_block ?_
  refine cw_sr ?_
  refine steps_q rfl (q_bin rfl rfl rfl) ?_  -- orient.go:39
  refine steps_q rfl (q_assign rfl) ?_  -- orient.go:39
  refine steps_nil ?_
  refine cw_cond _ rfl (fun hc1 => ?_) (fun hc1 => ?_)
  · cases hc1
  · -- no 1
    refine cw_sr ?_
    refine steps_q rfl (q_bin rfl rfl rfl) ?_  -- orient.go:41
    refine steps_q rfl (q_assign rfl) ?_  -- orient.go:41
    refine steps_nil ?_
    refine cw_cond _ rfl (fun hc2 => ?_) (fun hc2 => ?_)
    · -- yes 2
      refine cw_sd mixed [0, 1, 2, 3, 4, 5, 6, 7, 8] 0 _ (by kernel_rfl) (SubL.refl _) ?_
      refine qi_q rfl rfl (q_loadW 3 agg47 rfl rfl rfl) ?_  -- orient.go:42
      refine qi_q rfl rfl (q_move rfl) ?_  -- orient.go:42
      refine qi_q rfl rfl (q_nilck rfl) ?_  -- orient.go:42
      refine qi_q rfl rfl (q_field fld134_0 rfl) ?_  -- orient.go:42
      refine qi_q rfl rfl (q_load1o one22 rfl hbt (by simp) rfl) ?_  -- orient.go:42
      refine qi_q rfl rfl (q_indexSl slc22 rfl rfl (by decide) (by decide)) ?_  -- orient.go:42
      refine qi_q rfl rfl (q_loadAo agg47 rfl hb (by simp) (hpt 0 _ rfl)) ?_  -- orient.go:42
      refine qi_q rfl rfl (q_aneq rfl rfl (eqlP p a) rfl) ?_  -- orient.go:42
      refine qi_q rfl rfl (q_assign rfl) ?_  -- orient.go:42
      refine qi_nil ?_
      refine tail_nil (by kernel_rfl) ?_
      refine cw_ret ?_
      exact ret_pure rfl (rv_tmp rfl rv_nil) rfl
    · cases hc2

theorem raises2 {a b : Pt} (hbt : w.heap[bt]? = some (.cells [v].toArray 134 (0, 0))) (h : PtsAt w v [a, b]) (ha : a.In 268435456) (hb' : b.In 268435456) (hp : p.In 268435456) : Raises w bt p (!decide (crossP (subP b a) (subP p a) = ⟨0, 0, 0⟩)) := by
  obtain ⟨a0, c0, hv, hs⟩ := h
  obtain ⟨bl, off, l, fz, rfl, hb, hpt⟩ := hs.resolve_left (by simp)
  obtain rfl : v = .slice (some ⟨bl, off, none⟩) 2 c0 := hv
  have k : ∀ {q : Pt}, q.In 268435456 → q.In P40 := fun h => h.mono (by decide)
  have db : (subP b a).In P40 := (sub_bd hb' ha).mono (by decide)
  have dp : (subP p a).In P40 := (sub_bd hp ha).mono (by decide)
  refine calls_of Tryz.func97 rfl Tryz.ntmps97 rfl (St.start w) (args := [.pointer (some ⟨bt, 0, none⟩), .agg p.l.toArray]) ?_
  refine cw_sr ?_
  refine steps_s (s_boxA 3 rfl rfl fun b3 => ?_)  -- orient.go:37
  refine steps_q rfl (q_assign rfl) ?_  -- orient.go:37
  refine steps_nil ?_
  refine cw_seq ?_
  refine cw_sr ?_
  refine steps_q rfl (q_move rfl) ?_  -- orient.go:38
  refine steps_q rfl (q_nilck rfl) ?_  -- orient.go:38
  refine steps_q rfl (q_field fld134_0 rfl) ?_  -- orient.go:38
  refine steps_q rfl (q_load1o one22 rfl hbt (by simp) rfl) ?_  -- orient.go:38
  refine steps_q rfl (q_lenSl Tryz.underlying22 rfl) ?_  -- orient.go:38
  refine steps_nil ?_
  refine cw_block ?_
  refine cw_sr ?_
  refine steps_q rfl (q_bin rfl rfl rfl) ?_  -- orient.go:39
  refine steps_q rfl (q_assign rfl) ?_  -- orient.go:39
  refine steps_nil ?_
  refine cw_cond _ rfl (fun hc1 => ?_) (fun hc1 => ?_)
  · cases hc1
  · -- no 1
    refine cw_sr ?_
    refine steps_q rfl (q_bin rfl rfl rfl) ?_  -- orient.go:41
    refine steps_q rfl (q_assign rfl) ?_  -- orient.go:41
    refine steps_nil ?_
    refine cw_cond _ rfl (fun hc2 => ?_) (fun hc2 => ?_)
    · cases hc2
    · -- no 2
      refine cw_sr ?_
      refine steps_q rfl (q_bin rfl rfl rfl) ?_  -- orient.go:43
      refine steps_q rfl (q_assign rfl) ?_  -- orient.go:43
      refine steps_nil ?_
      refine cw_cond _ rfl (fun hc3 => ?_) (fun hc3 => ?_)
      · -- yes 3
        refine cw_sd mixed [0, 1, 2, 3, 4, 5, 6, 7, 8, 9, 10, 11, 12, 13, 14, 15, 16, 17, 18, 19, 20, 21, 22, 23, 24] 0 _ (by kernel_rfl) (SubL.refl _) ?_
        refine qi_q rfl rfl (q_move rfl) ?_  -- orient.go:44
        refine qi_q rfl rfl (q_nilck rfl) ?_  -- orient.go:44
        refine qi_q rfl rfl (q_field fld134_0 rfl) ?_  -- orient.go:44
        refine qi_q rfl rfl (q_load1o one22 rfl hbt (by simp) rfl) ?_  -- orient.go:44
        refine qi_q rfl rfl (q_indexSl slc22 rfl rfl (by decide) (by decide)) ?_  -- orient.go:44
        refine qi_q rfl rfl (q_loadAo agg47 rfl hb (by simp) (hpt 1 _ rfl)) ?_  -- orient.go:44
        refine qi_q rfl rfl (q_move rfl) ?_  -- orient.go:44
        refine qi_q rfl rfl (q_nilck rfl) ?_  -- orient.go:44
        refine qi_q rfl rfl (q_field fld134_0 rfl) ?_  -- orient.go:44
        refine qi_q rfl rfl (q_load1o one22 rfl hbt (by simp) rfl) ?_  -- orient.go:44
        refine qi_q rfl rfl (q_indexSl slc22 rfl rfl (by decide) (by decide)) ?_  -- orient.go:44
        refine qi_q rfl rfl (q_loadAo agg47 rfl hb (by simp) (hpt 0 _ rfl)) ?_  -- orient.go:44
        refine qi_q rfl rfl (q_pure ent139 rfl (orient_less (k hb') (k ha))) ?_  -- orient.go:44
        refine qi_q rfl rfl (q_loadW 3 agg47 rfl rfl rfl) ?_  -- orient.go:44
        refine qi_q rfl rfl (q_move rfl) ?_  -- orient.go:44
        refine qi_q rfl rfl (q_nilck rfl) ?_  -- orient.go:44
        refine qi_q rfl rfl (q_field fld134_0 rfl) ?_  -- orient.go:44
        refine qi_q rfl rfl (q_load1o one22 rfl hbt (by simp) rfl) ?_  -- orient.go:44
        refine qi_q rfl rfl (q_indexSl slc22 rfl rfl (by decide) (by decide)) ?_  -- orient.go:44
        refine qi_q rfl rfl (q_loadAo agg47 rfl hb (by simp) (hpt 0 _ rfl)) ?_  -- orient.go:44
        refine qi_q rfl rfl (q_pure ent139 rfl (orient_less (k hp) (k ha))) ?_  -- orient.go:44
        refine qi_q rfl rfl (q_pure ent138 rfl (grid_Cross db dp)) ?_  -- orient.go:44
        refine qi_q rfl rfl (q_build (vs := []) rfl rfl bldS0) ?_  -- orient.go:44
        refine qi_q rfl rfl (q_aneq rfl rfl (eqlS ((cross_bd db dp).fits (by decide)) z3fits) rfl) ?_  -- orient.go:44
        refine qi_q rfl rfl (q_assign rfl) ?_  -- orient.go:44
        refine qi_nil ?_
        refine tail_nil (by kernel_rfl) ?_
        refine cw_ret ?_
        exact ret_pure rfl (rv_tmp rfl rv_nil) rfl
      · cases hc3

theorem raises3 {a b c : Pt} (hbt : w.heap[bt]? = some (.cells [v].toArray 134 (0, 0))) (h : PtsAt w v [a, b, c]) (ha : a.In 268435456) (hb' : b.In 268435456) (hc : c.In 268435456) (hp : p.In 268435456) : Raises w bt p (!decide (dotS (crossP (subP c a) (subP p a)) (subP b a) = 0)) := by
  obtain ⟨a0, c0, hv, hs⟩ := h
  obtain ⟨bl, off, l, fz, rfl, hb, hpt⟩ := hs.resolve_left (by simp)
  obtain rfl : v = .slice (some ⟨bl, off, none⟩) 3 c0 := hv
  have k : ∀ {q : Pt}, q.In 268435456 → q.In P40 := fun h => h.mono (by decide)
  have db : (subP b a).In P40 := (sub_bd hb' ha).mono (by decide)
  have dc : (subP c a).In P40 := (sub_bd hc ha).mono (by decide)
  have dp : (subP p a).In P40 := (sub_bd hp ha).mono (by decide)
  refine calls_of Tryz.func97 rfl Tryz.ntmps97 rfl (St.start w) (args := [.pointer (some ⟨bt, 0, none⟩), .agg p.l.toArray]) ?_
  refine cw_sr ?_
  refine steps_s (s_boxA 3 rfl rfl fun b3 => ?_)  -- orient.go:37
  refine steps_q rfl (q_assign rfl) ?_  -- orient.go:37
  refine steps_nil ?_
  refine cw_seq ?_
  refine cw_sr ?_
  refine steps_q rfl (q_move rfl) ?_  -- orient.go:38
  refine steps_q rfl (q_nilck rfl) ?_  -- orient.go:38
  refine steps_q rfl (q_field fld134_0 rfl) ?_  -- orient.go:38
  refine steps_q rfl (q_load1o one22 rfl hbt (by simp) rfl) ?_  -- orient.go:38
  refine steps_q rfl (q_lenSl Tryz.underlying22 rfl) ?_  -- orient.go:38
  refine steps_nil ?_
  refine cw_block ?_
  refine cw_sr ?_
  refine steps_q rfl (q_bin rfl rfl rfl) ?_  -- orient.go:39
  refine steps_q rfl (q_assign rfl) ?_  -- orient.go:39
  refine steps_nil ?_
  refine cw_cond _ rfl (fun hc1 => ?_) (fun hc1 => ?_)
  · cases hc1
  · -- no 1
    refine cw_sr ?_
    refine steps_q rfl (q_bin rfl rfl rfl) ?_  -- orient.go:41
    refine steps_q rfl (q_assign rfl) ?_  -- orient.go:41
    refine steps_nil ?_
    refine cw_cond _ rfl (fun hc2 => ?_) (fun hc2 => ?_)
    · cases hc2
    · -- no 2
      refine cw_sr ?_
      refine steps_q rfl (q_bin rfl rfl rfl) ?_  -- orient.go:43
      refine steps_q rfl (q_assign rfl) ?_  -- orient.go:43
      refine steps_nil ?_
      refine cw_cond _ rfl (fun hc3 => ?_) (fun hc3 => ?_)
      · cases hc3
      · -- no 3
        refine cw_sr ?_
        refine steps_q rfl (q_bin rfl rfl rfl) ?_  -- orient.go:45
        refine steps_q rfl (q_assign rfl) ?_  -- orient.go:45
        refine steps_nil ?_
        refine cw_cond _ rfl (fun hc4 => ?_) (fun hc4 => ?_)
        · -- yes 4
          refine cw_sd mixed [0, 1, 2, 3, 4, 5, 6, 7, 8, 9, 10, 11, 12, 13, 14, 15, 16, 17, 18, 19, 20, 21, 22, 23, 24, 25, 26, 27, 28, 29, 30, 31, 32, 33, 34, 35, 36, 37] 0 _ (by kernel_rfl) (SubL.refl _) ?_
          refine qi_q rfl rfl (q_move rfl) ?_  -- orient.go:46
          refine qi_q rfl rfl (q_nilck rfl) ?_  -- orient.go:46
          refine qi_q rfl rfl (q_field fld134_0 rfl) ?_  -- orient.go:46
          refine qi_q rfl rfl (q_load1o one22 rfl hbt (by simp) rfl) ?_  -- orient.go:46
          refine qi_q rfl rfl (q_indexSl slc22 rfl rfl (by decide) (by decide)) ?_  -- orient.go:46
          refine qi_q rfl rfl (q_loadAo agg47 rfl hb (by simp) (hpt 1 _ rfl)) ?_  -- orient.go:46
          refine qi_q rfl rfl (q_move rfl) ?_  -- orient.go:46
          refine qi_q rfl rfl (q_nilck rfl) ?_  -- orient.go:46
          refine qi_q rfl rfl (q_field fld134_0 rfl) ?_  -- orient.go:46
          refine qi_q rfl rfl (q_load1o one22 rfl hbt (by simp) rfl) ?_  -- orient.go:46
          refine qi_q rfl rfl (q_indexSl slc22 rfl rfl (by decide) (by decide)) ?_  -- orient.go:46
          refine qi_q rfl rfl (q_loadAo agg47 rfl hb (by simp) (hpt 0 _ rfl)) ?_  -- orient.go:46
          refine qi_q rfl rfl (q_pure ent139 rfl (orient_less (k hb') (k ha))) ?_  -- orient.go:46
          refine qi_q rfl rfl (q_move rfl) ?_  -- orient.go:46
          refine qi_q rfl rfl (q_nilck rfl) ?_  -- orient.go:46
          refine qi_q rfl rfl (q_field fld134_0 rfl) ?_  -- orient.go:46
          refine qi_q rfl rfl (q_load1o one22 rfl hbt (by simp) rfl) ?_  -- orient.go:46
          refine qi_q rfl rfl (q_indexSl slc22 rfl rfl (by decide) (by decide)) ?_  -- orient.go:46
          refine qi_q rfl rfl (q_loadAo agg47 rfl hb (by simp) (hpt 2 _ rfl)) ?_  -- orient.go:46
          refine qi_q rfl rfl (q_move rfl) ?_  -- orient.go:46
          refine qi_q rfl rfl (q_nilck rfl) ?_  -- orient.go:46
          refine qi_q rfl rfl (q_field fld134_0 rfl) ?_  -- orient.go:46
          refine qi_q rfl rfl (q_load1o one22 rfl hbt (by simp) rfl) ?_  -- orient.go:46
          refine qi_q rfl rfl (q_indexSl slc22 rfl rfl (by decide) (by decide)) ?_  -- orient.go:46
          refine qi_q rfl rfl (q_loadAo agg47 rfl hb (by simp) (hpt 0 _ rfl)) ?_  -- orient.go:46
          refine qi_q rfl rfl (q_pure ent139 rfl (orient_less (k hc) (k ha))) ?_  -- orient.go:46
          refine qi_q rfl rfl (q_loadW 3 agg47 rfl rfl rfl) ?_  -- orient.go:46
          refine qi_q rfl rfl (q_move rfl) ?_  -- orient.go:46
          refine qi_q rfl rfl (q_nilck rfl) ?_  -- orient.go:46
          refine qi_q rfl rfl (q_field fld134_0 rfl) ?_  -- orient.go:46
          refine qi_q rfl rfl (q_load1o one22 rfl hbt (by simp) rfl) ?_  -- orient.go:46
          refine qi_q rfl rfl (q_indexSl slc22 rfl rfl (by decide) (by decide)) ?_  -- orient.go:46
          refine qi_q rfl rfl (q_loadAo agg47 rfl hb (by simp) (hpt 0 _ rfl)) ?_  -- orient.go:46
          refine qi_q rfl rfl (q_pure ent139 rfl (orient_less (k hp) (k ha))) ?_  -- orient.go:46
          refine qi_q rfl rfl (q_pure ent140 rfl (grid_Det db dc dp)) ?_  -- orient.go:46
          refine qi_q rfl rfl (q_pure ent67 rfl (wide_Sign _ (fits_big (bd_big (dotS_bd (cross_bd dc dp) db) (by decide))))) ?_  -- orient.go:46
          refine qi_q rfl rfl (q_bin rfl rfl (congrArg (fun b => some (Value.bool b)) (sgnI_ne _))) ?_  -- orient.go:46
          refine qi_q rfl rfl (q_assign rfl) ?_  -- orient.go:46
          refine qi_nil ?_
          refine tail_nil (by kernel_rfl) ?_
          refine cw_ret ?_
          exact ret_pure rfl (rv_tmp rfl rv_nil) rfl
        · cases hc4

theorem raises4 {a b c d : Pt} (hbt : w.heap[bt]? = some (.cells [v].toArray 134 (0, 0))) (h : PtsAt w v [a, b, c, d]) : Raises w bt p (false) := by
  obtain ⟨a0, c0, hv, hs⟩ := h
  obtain ⟨bl, off, l, fz, rfl, hb, hpt⟩ := hs.resolve_left (by simp)
  obtain rfl : v = .slice (some ⟨bl, off, none⟩) 4 c0 := hv
  refine calls_of Tryz.func97 rfl Tryz.ntmps97 rfl (St.start w) (args := [.pointer (some ⟨bt, 0, none⟩), .agg p.l.toArray]) ?_
  refine cw_sr ?_
  refine steps_s (s_boxA 3 rfl rfl fun b3 => ?_)  -- orient.go:37
  refine steps_q rfl (q_assign rfl) ?_  -- orient.go:37
  refine steps_nil ?_
  refine cw_seq ?_
  refine cw_sr ?_
  refine steps_q rfl (q_move rfl) ?_  -- orient.go:38
  refine steps_q rfl (q_nilck rfl) ?_  -- orient.go:38
  refine steps_q rfl (q_field fld134_0 rfl) ?_  -- orient.go:38
  refine steps_q rfl (q_load1o one22 rfl hbt (by simp) rfl) ?_  -- orient.go:38
  refine steps_q rfl (q_lenSl Tryz.underlying22 rfl) ?_  -- orient.go:38
  refine steps_nil ?_
  refine cw_block ?_
  refine cw_sr ?_
  refine steps_q rfl (q_bin rfl rfl rfl) ?_  -- orient.go:39
  refine steps_q rfl (q_assign rfl) ?_  -- orient.go:39
  refine steps_nil ?_
  refine cw_cond _ rfl (fun hc1 => ?_) (fun hc1 => ?_)
  · cases hc1
  · -- no 1
    refine cw_sr ?_
    refine steps_q rfl (q_bin rfl rfl rfl) ?_  -- orient.go:41
    refine steps_q rfl (q_assign rfl) ?_  -- orient.go:41
    refine steps_nil ?_
    refine cw_cond _ rfl (fun hc2 => ?_) (fun hc2 => ?_)
    · cases hc2
    · -- no 2
      refine cw_sr ?_
      refine steps_q rfl (q_bin rfl rfl rfl) ?_  -- orient.go:43
      refine steps_q rfl (q_assign rfl) ?_  -- orient.go:43
      refine steps_nil ?_
      refine cw_cond _ rfl (fun hc3 => ?_) (fun hc3 => ?_)
      · cases hc3
      · -- no 3
        refine cw_sr ?_
        refine steps_q rfl (q_bin rfl rfl rfl) ?_  -- orient.go:45
        refine steps_q rfl (q_assign rfl) ?_  -- orient.go:45
        refine steps_nil ?_
        refine cw_cond _ rfl (fun hc4 => ?_) (fun hc4 => ?_)
        · cases hc4
        · -- no 4
          refine cw_skip ?_
          refine at_then ?_
          refine cw_sr ?_
          refine steps_q rfl (q_assign rfl) ?_  -- orient.go:48
          refine steps_nil ?_
          refine cw_ret ?_
          exact ret_pure rfl (rv_tmp rfl rv_nil) rfl
end
end Go.Proofs.YtomdahjakkifbaaGreat

/-
  The walks of package orient: Spread, Rank.
-/
namespace Go.Proofs.YtomdahjakkifbaaGreat
open Go Go.NP Go.RowKit Go.Proofs
set_option maxRecDepth 100000

theorem raises_of {w : World} {bt : Nat} {v : Value} {p : Pt} {qs : List Pt} (hbt : w.heap[bt]? = some (.cells [v].toArray 134 (0, 0))) (h : PtsAt w v qs) (hl : qs.length ≤ 4) (hq : okPts qs) (hp : p.In 268435456) : Raises w bt p (raisesB qs p) := by
  match qs, hl, hq with
  | [], _, _ => exact raises0 hbt h
  | [a], _, _ => exact raises1 hbt h
  | [a, b], _, hq => exact raises2 hbt h (hq a (by simp)) (hq b (by simp)) hp
  | [a, b, c], _, hq => exact raises3 hbt h (hq a (by simp)) (hq b (by simp)) (hq c (by simp)) hp
  | [a, b, c, d], _, _ => exact raises4 hbt h
theorem raises_le {qs : List Pt} {p : Pt} (hl : qs.length ≤ 4) (h : raisesB qs p = true) : qs.length ≤ 3 := by
  match qs, hl, h with
  | [], _, _ => simp
  | [_], _, _ => simp
  | [_, _], _, _ => simp
  | [_, _, _], _, _ => simp
  | [a, b, c, d], _, h => simp [raisesB] at h

/-- Those that raise the rank, and their places, of a list that goes on. -/
def sprd : List Pt → Int → List Pt → List Int → List Pt × List Int
  | [], _, qs, ks => (qs, ks)
  | p :: r, k, qs, ks => if raisesB qs p then sprd r (k + 1) (qs ++ [p]) (ks ++ [k]) else sprd r (k + 1) qs ks
def intC (k : Int) : List Value := [.int .i64 k]
theorem bslP (p : Pt) : ∀ w, (Instr.buildSlice 22 1 [(0, Value.agg p.l.toArray)].toArray).run Tryz.prog w = .ok (.slice (some ⟨w.heap.size, 0, none⟩) 1 1) (w.alloc (.cells p.l.toArray 47)) := fun w => by kernel_rfl
theorem bslI (k : Int) : ∀ w, (Instr.buildSlice 34 1 [(0, Value.int .i64 k)].toArray).run Tryz.prog w = .ok (.slice (some ⟨w.heap.size, 0, none⟩) 1 1) (w.alloc (.cells (intC k).toArray 3)) := fun w => by kernel_rfl

theorem at_ng_ret {w0 : World} {M : List Nat} {N : Nat} {D : Dfr} {T : TL} {L : HL} {Q : Exit → Act → World → Prop} (h : At w0 M N D Q .ret T L) : At w0 M N D (Exit.noGoto Q) .ret T L := h
theorem sv_both {a b : SV} (h : a.isSome = b.isSome) : (a = none ∧ b = none) ∨ ∃ g1 c1 k1 g2 c2 k2, a = some (g1, c1, k1) ∧ b = some (g2, c2, k2) := by
  rcases a with _ | ⟨g1, c1, k1⟩ <;> rcases b with _ | ⟨g2, c2, k2⟩
  · exact .inl ⟨rfl, rfl⟩
  · cases h
  · cases h
  · exact .inr ⟨_, _, _, _, _, _, rfl, rfl⟩
/-- What a round of Spread begins with. -/
structure SpI (ps : List Pt) (i : Int) (n : Nat) (qs : List Pt) (ks : List Int) (st so : SV) : Prop where
  i0 : 0 ≤ i
  i1 : i ≤ ps.length
  tot : sprd (ps.drop i.toNat) i qs ks = sprd ps 0 [] []
  lq : qs.length = n
  lk : ks.length = n
  le : n ≤ 4
  ok : okPts qs
  stOk : st.ok 3 (qs.map Pt.l)
  soOk : so.ok 1 (ks.map intC)
  iso : st.isSome = so.isSome
theorem drop_at {α : Type} {l : List α} {i : Nat} {x : α} (h : l[i]? = some x) : l.drop i = x :: l.drop (i + 1) := by
  obtain ⟨hi, he⟩ := List.getElem?_eq_some_iff.1 h
  rw [List.drop_eq_getElem_cons hi, he]

set_option maxHeartbeats 4000000 in
theorem orient_Spread_ok {ps : List Pt} {v : Value} (w : World) (h : PtsAt w v ps) (hok : okPts ps) (hlen : ps.length ≤ 256) :
    Calls Tryz.prog 63 #[v] w fun e w' => (∃ a c, e = .returned (.tuple #[.slice a (sprd ps 0 [] []).2.length c, .int .i64 0])) ∧ Below w.heap.size w w' := by
  have hv := h
  obtain ⟨a, c, rfl, hsl⟩ := h
  rw [List.length_map] at hv ⊢
  refine calls_of Tryz.func63 rfl Tryz.ntmps63 rfl (St.start w) (args := [.slice a ps.length c]) ?_
  refine cw_sr ?_
  refine steps_q rfl (q_assign rfl) ?_  -- orient.go:52
  refine steps_q rfl (q_assign rfl) ?_  -- orient.go:52
  refine steps_nil ?_
  refine cw_scope ?_
  refine cw_sr ?_
  refine steps_s (s_allocA 4 rfl zer134 fun b4 => ?_)  -- orient.go:53
  refine steps_nil ?_
  refine cw_sr ?_
  refine steps_q rfl (q_func rfl rfl) ?_  -- orient.go:54
  refine steps_q rfl (q_assign rfl) ?_  -- orient.go:54
  refine steps_nil ?_
  refine cw_seq ?_
  refine cw_sr ?_
  refine steps_q rfl (q_move rfl) ?_  -- orient.go:55
  refine steps_q rfl (q_call ent98 rfl rfl (fun w' hw => by simpa [hok] using orient_fine w' (SlAt.st hv hw) (by omega))) ?_  -- orient.go:55
  refine steps_q rfl (q_not rfl rfl) ?_  -- orient.go:55
  refine steps_nil ?_
  refine cw_cond _ rfl (fun hc1 => ?_) (fun hc1 => ?_)
  · cases hc1
  · -- no 1
    refine cw_skip ?_
    refine at_then ?_
    refine cw_seq ?_
    refine cw_sr ?_
    refine steps_q rfl (q_move rfl) ?_  -- orient.go:59
    refine steps_q rfl (q_lenSl Tryz.underlying22 rfl) ?_  -- orient.go:59
    refine steps_q rfl (q_bin rfl rfl rfl) ?_  -- orient.go:59
    refine steps_nil ?_
    refine cw_cond _ rfl (fun hc2 => ?_) (fun hc2 => ?_)
    · have := of_decide_eq_true hc2
      omega
    · -- no 2
      refine cw_skip ?_
      refine at_then ?_
      refine cw_seq ?_
      refine cw_sr ?_
      refine steps_q rfl (q_move rfl) ?_  -- orient.go:63
      refine steps_q rfl (q_lenSl Tryz.underlying22 rfl) ?_  -- orient.go:63
      refine steps_q rfl (q_move rfl) ?_  -- orient.go:63
      refine steps_nil ?_
      refine cw_block ?_
      -- LOOP 1 writes [2, 6, 7, 17, 18, 19, 20, 21, 22, 23, 24, 25, 26, 27, 28, 29, 30, 31, 32, 33, 34, 35]  stores via [7, 30]  reads [4, 5, 15, 16]
      refine cw_loop (S := Int × Nat × List Pt × List Int × SV × SV) (fun (i, n, qs, ks, st, so) => [(2, so.v n), (3, .int .i64 0), (4, .pointer (some ⟨b4, 0, none⟩)), (5, .func (.func 97) #[.pointer (some ⟨b4, 0, none⟩)] #[]), (15, .slice a ps.length c), (16, .int .i64 ps.length), (17, .int .i64 i)])
        (fun (i, n, qs, ks, st, so) => (4, (b4, .cells [st.v n].toArray 134 (0, 0))) :: (st.l 61 47 ++ so.l 62 3)) (fun (i, n, qs, ks, st, so) => SpI ps i n qs ks st so) (fun s => (ps.length - s.1).toNat) (0, 0, [], [], none, none) ⟨by omega, by omega, rfl, rfl, rfl, by omega, (fun p hp => nomatch hp), rfl, rfl, rfl⟩
        (subs ⟨rfl, rfl, rfl, rfl, rfl, rfl, rfl, trivial⟩) (subs ⟨rfl, trivial⟩) ?_
      rintro ⟨i, n, qs, ks, st, so⟩ hI
      dsimp only at hI
      conv => enter [7]; dsimp only
      conv => enter [8]; dsimp only
      obtain ⟨hi0, hi1, htot, hlq, hlk, hle, hokq, hst, hso, hiso⟩ := hI
      refine cw_sr ?_
      refine steps_q rfl (q_bin rfl rfl rfl) ?_  -- orient.go:63
      refine steps_nil ?_
      refine cw_seq ?_
      refine cw_cond _ rfl (fun hc3 => ?_) (fun hc3 => ?_)
      · -- yes 3
        have hc : i < ps.length := of_decide_eq_true hc3
        obtain ⟨p, hp⟩ : ∃ p, ps[i.toNat]? = some p := ⟨ps[i.toNat]'(by omega), List.getElem?_eq_getElem (by omega)⟩
        have hpl : (ps.map Pt.l)[i.toNat]? = some p.l := by rw [List.getElem?_map, hp]; rfl
        have hpin : p.In 268435456 := hok p (List.mem_of_getElem? hp)
        obtain ⟨b, off, l, fz, rfl, hb, hpt⟩ := hsl.resolve_left (by intro h; rw [h] at hpl; simp at hpl)
        rw [drop_at hp] at htot
        have hi' : (i + 1).toNat = i.toNat + 1 := by omega
        refine cw_skip ?_
        refine at_then ?_
        refine cw_seq ?_
        refine cw_block ?_
        rcases sv_both hiso with ⟨rfl, rfl⟩ | ⟨g1, cur1, cap1, g2, cur2, cap2, rfl, rfl⟩
        · -- way 9.a
          refine cw_sr ?_
          refine steps_q rfl (q_move rfl) ?_  -- orient.go:63
          refine steps_q rfl (q_indexSl slc22 rfl rfl hi0 hc) ?_  -- orient.go:63
          refine steps_q rfl (q_loadAo agg47 rfl hb (by simp) (hpt _ _ hpl)) ?_  -- orient.go:63
          refine steps_s (s_allocA 7 rfl zer47 fun b7 => ?_)  -- orient.go:63
          refine steps_q rfl (q_assign rfl) ?_  -- orient.go:63
          refine steps_s (s_storeW 7 siz47 rfl rfl rfl rfl rfl rfl ?_)  -- orient.go:63
          refine steps_nil ?_
          refine cw_sr ?_
          refine steps_q rfl (q_move rfl) ?_  -- orient.go:64
          refine steps_q rfl (q_loadW 7 agg47 rfl rfl rfl) ?_  -- orient.go:64
          refine steps_q rfl (q_call ent97 rfl rfl (fun w' hw => raises_of (hw.known 4 _ _ rfl).1 (by have := SlAt.own (q := none) (i := 61) (e := 47) hw (subs trivial) hst; rwa [List.length_map, hlq] at this) (by omega) hokq hpin)) ?_  -- orient.go:64
          refine steps_nil ?_
          refine cw_cond _ rfl (fun hc4 => ?_) (fun hc4 => ?_)
          · -- yes 4
            have hle3 := raises_le (by omega) hc4
            have hn1 : (qs.map Pt.l).length = n := by rw [List.length_map, hlq]
            have hn2 : (ks.map intC).length = n := by rw [List.length_map, hlk]
            refine cw_sr ?_
            refine steps_q rfl (q_field fld134_0 rfl) ?_  -- orient.go:65
            refine steps_q rfl (q_load1 4 one22 rfl rfl rfl) ?_  -- orient.go:65
            refine steps_q rfl (q_loadW 7 agg47 rfl rfl rfl) ?_  -- orient.go:65
            refine steps_s (s_buildSl 28 rfl rfl rfl (bslP p) fun b28 => ?_)  -- orient.go:65
            refine steps_s (s_append 61 28 none (qs.map Pt.l) p.l elt22 rfl (by rw [hn1]; rfl) hst (subs trivial) rfl rfl rfl rfl (by rw [hn1]; omega) (by rw [hn1]; unfold maxLen; omega) fun g1 cur1 cap1 hk1 => ?_)  -- orient.go:65
            refine steps_q rfl (q_field fld134_0 rfl) ?_  -- orient.go:65
            refine steps_s (s_storeV 4 siz22 rfl rfl rfl rfl rfl ?_)  -- orient.go:65
            refine steps_nil ?_
            refine cw_region ?_
            refine steps_q rfl (q_move rfl) ?_  -- orient.go:66
            refine steps_q rfl (q_move rfl) ?_  -- orient.go:66
            refine steps_s (s_buildSl 33 rfl rfl rfl (bslI i) fun b33 => ?_)  -- orient.go:66
            refine steps_s (s_append 62 33 none (ks.map intC) (intC i) elt34 rfl (by rw [hn2]; rfl) hso (subs trivial) rfl rfl rfl rfl (by rw [hn2]; omega) (by rw [hn2]; unfold maxLen; omega) fun g2 cur2 cap2 hk2 => ?_)  -- orient.go:66
            refine steps_q rfl (q_assign rfl) ?_  -- orient.go:66
            refine steps_nil ?_
            refine at_then ?_
            refine cw_region ?_
            refine steps_q rfl (q_bin rfl rfl (add64 (by omega) (by omega))) ?_  -- orient.go:63
            refine steps_q rfl (q_move rfl) ?_  -- orient.go:63
            refine steps_nil ?_
            first
              | exact at_round (i + 1, n, qs, ks, _, _) ⟨by omega, by omega, by rw [hi', ← htot, sprd, if_neg (by rw [hn4]; decide)], hlq, hlk, hle, hokq, hst, hso, rfl⟩ (by dsimp only; omega) (subs ⟨rfl, rfl, rfl, rfl, rfl, rfl, rfl, trivial⟩) (subs ⟨rfl, trivial⟩)
              | exact at_round (i + 1, n, qs, ks, _, _) ⟨by omega, by omega, by rw [hi', ← htot, sprd, if_neg (by rw [hn4]; decide)], hlq, hlk, hle, hokq, hst, hso, rfl⟩ (by dsimp only; omega) (subs ⟨rfl, rfl, rfl, rfl, rfl, rfl, rfl, trivial⟩) (subs ⟨rfl, rfl, rfl, trivial⟩)
              | (rw [hn1, hn2]; exact at_round (i + 1, n + 1, qs ++ [p], ks ++ [i], some (g1, cur1, cap1), some (g2, cur2, cap2)) ⟨by omega, by omega, by rw [hi', ← htot, sprd, if_pos hc4], by simp [hlq], by simp [hlk], by omega, fun q hq => by rcases List.mem_append.1 hq with h | h; exact hokq q h; rw [List.mem_singleton.1 h]; exact hpin, by rw [List.map_append]; exact hk1, by rw [List.map_append]; exact hk2, rfl⟩ (by dsimp only; omega) (subs ⟨rfl, rfl, rfl, rfl, rfl, rfl, rfl, trivial⟩) (subs ⟨rfl, rfl, rfl, trivial⟩))
          · -- no 4
            have hn4 : raisesB qs p = false := hc4
            refine cw_skip ?_
            refine at_then ?_
            refine cw_region ?_
            refine steps_q rfl (q_bin rfl rfl (add64 (by omega) (by omega))) ?_  -- orient.go:63
            refine steps_q rfl (q_move rfl) ?_  -- orient.go:63
            refine steps_nil ?_
            first
              | exact at_round (i + 1, n, qs, ks, _, _) ⟨by omega, by omega, by rw [hi', ← htot, sprd, if_neg (by rw [hn4]; decide)], hlq, hlk, hle, hokq, hst, hso, rfl⟩ (by dsimp only; omega) (subs ⟨rfl, rfl, rfl, rfl, rfl, rfl, rfl, trivial⟩) (subs ⟨rfl, trivial⟩)
              | exact at_round (i + 1, n, qs, ks, _, _) ⟨by omega, by omega, by rw [hi', ← htot, sprd, if_neg (by rw [hn4]; decide)], hlq, hlk, hle, hokq, hst, hso, rfl⟩ (by dsimp only; omega) (subs ⟨rfl, rfl, rfl, rfl, rfl, rfl, rfl, trivial⟩) (subs ⟨rfl, rfl, rfl, trivial⟩)
              | (rw [hn1, hn2]; exact at_round (i + 1, n + 1, qs ++ [p], ks ++ [i], some (g1, cur1, cap1), some (g2, cur2, cap2)) ⟨by omega, by omega, by rw [hi', ← htot, sprd, if_pos hc4], by simp [hlq], by simp [hlk], by omega, fun q hq => by rcases List.mem_append.1 hq with h | h; exact hokq q h; rw [List.mem_singleton.1 h]; exact hpin, by rw [List.map_append]; exact hk1, by rw [List.map_append]; exact hk2, rfl⟩ (by dsimp only; omega) (subs ⟨rfl, rfl, rfl, rfl, rfl, rfl, rfl, trivial⟩) (subs ⟨rfl, rfl, rfl, trivial⟩))
        · -- way 9.b
          refine cw_sr ?_
          refine steps_q rfl (q_move rfl) ?_  -- orient.go:63
          refine steps_q rfl (q_indexSl slc22 rfl rfl hi0 hc) ?_  -- orient.go:63
          refine steps_q rfl (q_loadAo agg47 rfl hb (by simp) (hpt _ _ hpl)) ?_  -- orient.go:63
          refine steps_s (s_allocA 7 rfl zer47 fun b7 => ?_)  -- orient.go:63
          refine steps_q rfl (q_assign rfl) ?_  -- orient.go:63
          refine steps_s (s_storeW 7 siz47 rfl rfl rfl rfl rfl rfl ?_)  -- orient.go:63
          refine steps_nil ?_
          refine cw_sr ?_
          refine steps_q rfl (q_move rfl) ?_  -- orient.go:64
          refine steps_q rfl (q_loadW 7 agg47 rfl rfl rfl) ?_  -- orient.go:64
          refine steps_q rfl (q_call ent97 rfl rfl (fun w' hw => raises_of (hw.known 4 _ _ rfl).1 (by have := SlAt.own (q := some (g1, cur1, cap1)) (i := 61) (e := 47) hw (subs ⟨rfl, trivial⟩) hst; rwa [List.length_map, hlq] at this) (by omega) hokq hpin)) ?_  -- orient.go:64
          refine steps_nil ?_
          refine cw_cond _ rfl (fun hc4 => ?_) (fun hc4 => ?_)
          · -- yes 4
            have hle3 := raises_le (by omega) hc4
            have hn1 : (qs.map Pt.l).length = n := by rw [List.length_map, hlq]
            have hn2 : (ks.map intC).length = n := by rw [List.length_map, hlk]
            refine cw_sr ?_
            refine steps_q rfl (q_field fld134_0 rfl) ?_  -- orient.go:65
            refine steps_q rfl (q_load1 4 one22 rfl rfl rfl) ?_  -- orient.go:65
            refine steps_q rfl (q_loadW 7 agg47 rfl rfl rfl) ?_  -- orient.go:65
            refine steps_s (s_buildSl 28 rfl rfl rfl (bslP p) fun b28 => ?_)  -- orient.go:65
            refine steps_s (s_append 61 28 (some (g1, cur1, cap1)) (qs.map Pt.l) p.l elt22 rfl (by rw [hn1]; rfl) hst (subs ⟨rfl, trivial⟩) rfl rfl rfl rfl (by rw [hn1]; omega) (by rw [hn1]; unfold maxLen; omega) fun g1 cur1 cap1 hk1 => ?_)  -- orient.go:65
            refine steps_q rfl (q_field fld134_0 rfl) ?_  -- orient.go:65
            refine steps_s (s_storeV 4 siz22 rfl rfl rfl rfl rfl ?_)  -- orient.go:65
            refine steps_nil ?_
            refine cw_region ?_
            refine steps_q rfl (q_move rfl) ?_  -- orient.go:66
            refine steps_q rfl (q_move rfl) ?_  -- orient.go:66
            refine steps_s (s_buildSl 33 rfl rfl rfl (bslI i) fun b33 => ?_)  -- orient.go:66
            refine steps_s (s_append 62 33 (some (g2, cur2, cap2)) (ks.map intC) (intC i) elt34 rfl (by rw [hn2]; rfl) hso (subs ⟨rfl, trivial⟩) rfl rfl rfl rfl (by rw [hn2]; omega) (by rw [hn2]; unfold maxLen; omega) fun g2 cur2 cap2 hk2 => ?_)  -- orient.go:66
            refine steps_q rfl (q_assign rfl) ?_  -- orient.go:66
            refine steps_nil ?_
            refine at_then ?_
            refine cw_region ?_
            refine steps_q rfl (q_bin rfl rfl (add64 (by omega) (by omega))) ?_  -- orient.go:63
            refine steps_q rfl (q_move rfl) ?_  -- orient.go:63
            refine steps_nil ?_
            first
              | exact at_round (i + 1, n, qs, ks, _, _) ⟨by omega, by omega, by rw [hi', ← htot, sprd, if_neg (by rw [hn4]; decide)], hlq, hlk, hle, hokq, hst, hso, rfl⟩ (by dsimp only; omega) (subs ⟨rfl, rfl, rfl, rfl, rfl, rfl, rfl, trivial⟩) (subs ⟨rfl, trivial⟩)
              | exact at_round (i + 1, n, qs, ks, _, _) ⟨by omega, by omega, by rw [hi', ← htot, sprd, if_neg (by rw [hn4]; decide)], hlq, hlk, hle, hokq, hst, hso, rfl⟩ (by dsimp only; omega) (subs ⟨rfl, rfl, rfl, rfl, rfl, rfl, rfl, trivial⟩) (subs ⟨rfl, rfl, rfl, trivial⟩)
              | (rw [hn1, hn2]; exact at_round (i + 1, n + 1, qs ++ [p], ks ++ [i], some (g1, cur1, cap1), some (g2, cur2, cap2)) ⟨by omega, by omega, by rw [hi', ← htot, sprd, if_pos hc4], by simp [hlq], by simp [hlk], by omega, fun q hq => by rcases List.mem_append.1 hq with h | h; exact hokq q h; rw [List.mem_singleton.1 h]; exact hpin, by rw [List.map_append]; exact hk1, by rw [List.map_append]; exact hk2, rfl⟩ (by dsimp only; omega) (subs ⟨rfl, rfl, rfl, rfl, rfl, rfl, rfl, trivial⟩) (subs ⟨rfl, rfl, rfl, trivial⟩))
          · -- no 4
            have hn4 : raisesB qs p = false := hc4
            refine cw_skip ?_
            refine at_then ?_
            refine cw_region ?_
            refine steps_q rfl (q_bin rfl rfl (add64 (by omega) (by omega))) ?_  -- orient.go:63
            refine steps_q rfl (q_move rfl) ?_  -- orient.go:63
            refine steps_nil ?_
            first
              | exact at_round (i + 1, n, qs, ks, _, _) ⟨by omega, by omega, by rw [hi', ← htot, sprd, if_neg (by rw [hn4]; decide)], hlq, hlk, hle, hokq, hst, hso, rfl⟩ (by dsimp only; omega) (subs ⟨rfl, rfl, rfl, rfl, rfl, rfl, rfl, trivial⟩) (subs ⟨rfl, trivial⟩)
              | exact at_round (i + 1, n, qs, ks, _, _) ⟨by omega, by omega, by rw [hi', ← htot, sprd, if_neg (by rw [hn4]; decide)], hlq, hlk, hle, hokq, hst, hso, rfl⟩ (by dsimp only; omega) (subs ⟨rfl, rfl, rfl, rfl, rfl, rfl, rfl, trivial⟩) (subs ⟨rfl, rfl, rfl, trivial⟩)
              | (rw [hn1, hn2]; exact at_round (i + 1, n + 1, qs ++ [p], ks ++ [i], some (g1, cur1, cap1), some (g2, cur2, cap2)) ⟨by omega, by omega, by rw [hi', ← htot, sprd, if_pos hc4], by simp [hlq], by simp [hlk], by omega, fun q hq => by rcases List.mem_append.1 hq with h | h; exact hokq q h; rw [List.mem_singleton.1 h]; exact hpin, by rw [List.map_append]; exact hk1, by rw [List.map_append]; exact hk2, rfl⟩ (by dsimp only; omega) (subs ⟨rfl, rfl, rfl, rfl, rfl, rfl, rfl, trivial⟩) (subs ⟨rfl, rfl, rfl, trivial⟩))
      · -- no 3
        have hc : ¬ i < ps.length := of_decide_eq_false hc3
        have e : i.toNat = ps.length := by omega
        rw [e, List.drop_length, sprd] at htot
        obtain ⟨a', c', hv'⟩ : ∃ a' c', so.v n = .slice a' n c' := by
          rcases so with _ | ⟨g, cur, cap⟩
          · simp only [SV.ok, List.map_eq_nil_iff] at hso
            subst hso
            simp at hlk
            subst hlk
            exact ⟨_, _, rfl⟩
          · exact ⟨_, _, rfl⟩
        rw [← htot, hv']
        refine cw_exit ?_
        refine at_then ?_
        refine cw_seq ?_
        refine cw_sr ?_
        refine steps_q rfl (q_move rfl) ?_  -- orient.go:69
        refine steps_q rfl (q_assign rfl) ?_  -- orient.go:69
        refine steps_q rfl (q_assign rfl) ?_  -- orient.go:69
        refine steps_nil ?_
        refine cw_ret ?_
        refine At.of_then_ret ?_
        refine at_ng_ret ?_
        exact at_ret rfl (rv_tmp rfl (rv_tmp rfl rv_nil)) fun w' hw => ⟨⟨_, _, by rw [hlk]; rfl⟩, hw.below⟩

theorem at_jump_other {w0 : World} {M : List Nat} {N : Nat} {D : Dfr} {T : TL} {L : HL} {Q : Exit → Act → World → Prop} {J : Act → World → Prop} {l : Nat} (h : At w0 M N D Q .ret T L) : At w0 M N D (Exit.jump l J Q) .ret T L := h
/-- What Spread says of points that may not be. -/
def errPts (ps : List Pt) : Int := if okPts ps then if ps.length ≤ 256 then 0 else 3 else 7
theorem orient_Spread_bad {ps : List Pt} {v : Value} (w : World) (h : PtsAt w v ps) (hlen : ps.length ≤ 1000000) (he : errPts ps ≠ 0) :
    Calls Tryz.prog 63 #[v] w fun e w' => e = .returned (.tuple #[.slice none 0 0, .int .i64 (errPts ps)]) ∧ Below w.heap.size w w' := by
  have hv := h
  obtain ⟨a, c, rfl, hsl⟩ := h
  rw [List.length_map] at hv ⊢
  refine calls_of Tryz.func63 rfl Tryz.ntmps63 rfl (St.start w) (args := [.slice a ps.length c]) ?_
  refine cw_sr ?_
  refine steps_q rfl (q_assign rfl) ?_  -- orient.go:52
  refine steps_q rfl (q_assign rfl) ?_  -- orient.go:52
  refine steps_nil ?_
  refine cw_scope_jump (S := Unit) 0 (fun _ => [(3, .int .i64 (errPts ps))]) (fun _ => []) (fun _ => True) rfl ?_ fun _ _ => ?_
  case' refine_2 =>
    refine cw_seq ?_
    refine cw_skip ?_
    refine at_then ?_
    refine cw_sr ?_
    refine steps_q rfl (q_move rfl) ?_
    refine steps_q rfl (q_assign rfl) ?_
    refine steps_q rfl (q_assign rfl) ?_
    refine steps_nil ?_
    refine cw_ret ?_
    refine at_ng_ret ?_
    exact at_ret rfl (rv_tmp rfl (rv_tmp rfl rv_nil)) fun w' hw => ⟨rfl, hw.below⟩
  refine cw_sr ?_
  refine steps_s (s_allocA 4 rfl zer134 fun b4 => ?_)  -- orient.go:53
  refine steps_nil ?_
  refine cw_sr ?_
  refine steps_q rfl (q_func rfl rfl) ?_  -- orient.go:54
  refine steps_q rfl (q_assign rfl) ?_  -- orient.go:54
  refine steps_nil ?_
  refine cw_seq ?_
  refine cw_sr ?_
  refine steps_q rfl (q_move rfl) ?_  -- orient.go:55
  refine steps_q rfl (q_call ent98 rfl rfl (fun w' hw => orient_fine w' (SlAt.st hv hw) hlen)) ?_  -- orient.go:55
  refine steps_q rfl (q_not rfl rfl) ?_  -- orient.go:55
  refine steps_nil ?_
  refine cw_cond _ rfl (fun hc1 => ?_) (fun hc1 => ?_)
  · -- yes 1
    have hn : ¬ okPts ps := by simpa using hc1
    have e : errPts ps = 7 := by unfold errPts; rw [if_neg hn]
    rw [e]
    refine cw_sr ?_
    refine steps_q rfl (q_assign rfl) ?_  -- orient.go:56
    refine steps_nil ?_
    refine cw_goto ?_
    exact at_goto (Q := fun _ _ _ => True) () trivial (subs ⟨rfl, trivial⟩) (subs trivial)
  · -- no 1
    have hn : okPts ps := by simpa using hc1
    have e3 : ¬ ps.length ≤ 256 := fun hh => he (by unfold errPts; rw [if_pos hn, if_pos hh])
    have e : errPts ps = 3 := by unfold errPts; rw [if_pos hn, if_neg e3]
    rw [e]
    refine cw_skip ?_
    refine at_then ?_
    refine cw_seq ?_
    refine cw_sr ?_
    refine steps_q rfl (q_move rfl) ?_  -- orient.go:59
    refine steps_q rfl (q_lenSl Tryz.underlying22 rfl) ?_  -- orient.go:59
    refine steps_q rfl (q_bin rfl rfl rfl) ?_  -- orient.go:59
    refine steps_nil ?_
    refine cw_cond _ rfl (fun hc2 => ?_) (fun hc2 => ?_)
    · -- yes 2
      refine cw_sr ?_
      refine steps_q rfl (q_assign rfl) ?_  -- orient.go:60
      refine steps_nil ?_
      refine cw_goto ?_
      exact at_goto (Q := fun _ _ _ => True) () trivial (subs ⟨rfl, trivial⟩) (subs trivial)
    · have := of_decide_eq_false hc2
      omega

/-- The rank of points, or what stands against them. -/
def rankI (ps : List Pt) : Int := (sprd ps 0 [] []).2.length - 1
theorem sprd_le : ∀ (ps : List Pt) (k : Int) (qs : List Pt) (ks : List Int), ks.length ≤ 4 → qs.length = ks.length → (sprd ps k qs ks).2.length ≤ 4
  | [], _, _, _, h, _ => h
  | p :: r, k, qs, ks, h, e => by
    simp only [sprd]
    split
    · rename_i hr
      have := raises_le (by omega) hr
      exact sprd_le r _ _ _ (by simp; omega) (by simp [e])
    · exact sprd_le r _ _ _ h e
theorem orient_Rank {ps : List Pt} {v : Value} (w : World) (h : PtsAt w v ps) (hlen : ps.length ≤ 1000000) :
    Calls Tryz.prog 40 #[v] w fun e w' => e = .returned (.tuple #[.int .i64 (if errPts ps = 0 then rankI ps else 0), .int .i64 (errPts ps)]) ∧ Below w.heap.size w w' := by
  have hv := h
  obtain ⟨a, c, rfl, hsl⟩ := h
  rw [List.length_map] at hv ⊢
  by_cases he : errPts ps = 0
  · rw [if_pos he, he]
    have hok : okPts ps ∧ ps.length ≤ 256 := by
      unfold errPts at he
      split at he
      · split at he
        · exact ⟨‹_›, ‹_›⟩
        · omega
      · omega
    have hle := sprd_le ps 0 [] [] (by simp) rfl
    refine calls_of Tryz.func40 rfl Tryz.ntmps40 rfl (St.start w) (args := [.slice a ps.length c]) ?_
    refine cw_sr ?_
    refine steps_q rfl (q_assign rfl) ?_  -- orient.go:75
    refine steps_q rfl (q_assign rfl) ?_  -- orient.go:75
    refine steps_nil ?_
    refine cw_sr ?_
    refine steps_q rfl (q_move rfl) ?_  -- orient.go:76
    refine steps_s (s_callSt ent63 rfl rfl rfl (R := fun v Ln => ∃ a2 c2, v = .tuple #[.slice a2 (sprd ps 0 [] []).2.length c2, .int .i64 0] ∧ Ln = []) (fun w' hw => (orient_Spread_ok w' (SlAt.st hv hw) hok.1 hok.2).mono fun e w2 ⟨⟨a2, c2, he⟩, hb⟩ => ⟨_, [], he, ⟨a2, c2, rfl, rfl⟩, (St.start w').grow hb⟩) fun v Ln hR => ?_)  -- orient.go:76
    obtain ⟨a2, c2, rfl, rfl⟩ := hR
    refine steps_q rfl (q_move rfl) ?_  -- orient.go:76
    refine steps_q rfl (q_extract rfl rfl) ?_  -- orient.go:76
    refine steps_q rfl (q_extract rfl rfl) ?_  -- orient.go:76
    refine steps_q rfl (q_assign rfl) ?_  -- orient.go:76
    refine steps_q rfl (q_assign rfl) ?_  -- orient.go:76
    refine steps_nil ?_
    refine cw_seq ?_
    refine cw_sr ?_
    refine steps_q rfl (q_move rfl) ?_  -- orient.go:77
    refine steps_q rfl (q_bin rfl rfl rfl) ?_  -- orient.go:77
    refine steps_nil ?_
    refine cw_cond _ rfl (fun hc1 => ?_) (fun hc1 => ?_)
    · cases hc1
    · -- no 1
      refine cw_skip ?_
      refine at_then ?_
      refine cw_sr ?_
      refine steps_q rfl (q_move rfl) ?_  -- orient.go:80
      refine steps_q rfl (q_lenSl Tryz.underlying34 rfl) ?_  -- orient.go:80
      refine steps_q rfl (q_bin rfl rfl (sub64 (by omega) (by omega))) ?_  -- orient.go:80
      refine steps_q rfl (q_assign rfl) ?_  -- orient.go:80
      refine steps_q rfl (q_assign rfl) ?_  -- orient.go:80
      refine steps_nil ?_
      refine cw_ret ?_
      exact ret_pure rfl (rv_tmp rfl (rv_tmp rfl rv_nil)) rfl
  · rw [if_neg he]
    refine calls_of Tryz.func40 rfl Tryz.ntmps40 rfl (St.start w) (args := [.slice a ps.length c]) ?_
    refine cw_sr ?_
    refine steps_q rfl (q_assign rfl) ?_  -- orient.go:75
    refine steps_q rfl (q_assign rfl) ?_  -- orient.go:75
    refine steps_nil ?_
    refine cw_sr ?_
    refine steps_q rfl (q_move rfl) ?_  -- orient.go:76
    refine steps_q rfl (q_call ent63 rfl rfl (fun w' hw => orient_Spread_bad w' (SlAt.st hv hw) hlen he)) ?_  -- orient.go:76
    refine steps_q rfl (q_move rfl) ?_  -- orient.go:76
    refine steps_q rfl (q_extract rfl rfl) ?_  -- orient.go:76
    refine steps_q rfl (q_extract rfl rfl) ?_  -- orient.go:76
    refine steps_q rfl (q_assign rfl) ?_  -- orient.go:76
    refine steps_q rfl (q_assign rfl) ?_  -- orient.go:76
    refine steps_nil ?_
    refine cw_seq ?_
    refine cw_sr ?_
    refine steps_q rfl (q_move rfl) ?_  -- orient.go:77
    refine steps_q rfl (q_bin rfl rfl (congrArg (fun b => some (Value.bool b)) (show (errPts ps != 0) = true by simpa using he))) ?_  -- orient.go:77
    refine steps_nil ?_
    refine cw_cond _ rfl (fun hc1 => ?_) (fun hc1 => ?_)
    · -- yes 1
      refine cw_sr ?_
      refine steps_q rfl (q_move rfl) ?_  -- orient.go:78
      refine steps_q rfl (q_assign rfl) ?_  -- orient.go:78
      refine steps_q rfl (q_assign rfl) ?_  -- orient.go:78
      refine steps_nil ?_
      refine cw_ret ?_
      exact ret_pure rfl (rv_tmp rfl (rv_tmp rfl rv_nil)) rfl
    · cases hc1
end Go.Proofs.YtomdahjakkifbaaGreat

/-
  The walks of package simplex: square, Past.
-/
namespace Go.Proofs.YtomdahjakkifbaaGreat
open Go Go.NP Go.RowKit Go.Proofs
set_option maxRecDepth 100000

/-- 2^220: what the numbers of a nearest point keep to. -/
def Mid : Int := 1684996666696914987166688442938726917102321526408785780068975640576
def sqS (n : Sp) : Int := n.x * n.x + n.y * n.y + n.z * n.z
/-- A nearest point; its places as the program holds them. -/
structure Nr where
  n : Sp
  d : Int
  at' : Value
def Nr.l (m : Nr) : List Value := m.n.l ++ Wl m.d ++ [m.at']
theorem nr0 (m : Nr) : Part m.l 0 24 m.n.l := ⟨rfl, rfl⟩
theorem nr1 (m : Nr) : Part m.l 24 8 (Wl m.d) := ⟨rfl, rfl⟩
theorem sq_nn (x : Int) : 0 ≤ x * x := by
  rcases Int.le_total 0 x with h | h
  · exact Int.mul_nonneg h h
  · have := Int.mul_nonneg (show 0 ≤ -x by omega) (show 0 ≤ -x by omega)
    rwa [Int.neg_mul_neg] at this
theorem sq_bd {x K : Int} (h : -K ≤ x ∧ x ≤ K) : 0 ≤ x * x ∧ x * x ≤ K * K := ⟨sq_nn x, (mul_bd h h).2⟩

theorem simplex_square {n : Sp} (h : n.In Mid) : PureF Tryz.prog 94 [.agg n.l.toArray] (.agg (Wl (sqS n)).toArray) := by
  have fn := h.fits (by decide)
  obtain ⟨a, b, c⟩ := h
  have f : ∀ {x : Int}, -Mid ≤ x ∧ x ≤ Mid → Fits x := fun h => fits_big (by unfold Mid at h; unfold Big; omega)
  have qa := sq_bd a
  have qb := sq_bd b
  have qc := sq_bd c
  have e : Mid * Mid = 2839213766779714416208296124562517712318911565184836172974571090549372219192960637992933791850638927971728600024477257552869537611776 := by decide
  rw [e] at qa qb qc
  have fa : Fits (n.x * n.x) := fits_big (by unfold Big; omega)
  have fb : Fits (n.y * n.y) := fits_big (by unfold Big; omega)
  have fc : Fits (n.z * n.z) := fits_big (by unfold Big; omega)
  have fab : Fits (n.x * n.x + n.y * n.y) := fits_big (by unfold Big; omega)
  have fabc : Fits (n.x * n.x + n.y * n.y + n.z * n.z) := fits_big (by unfold Big; omega)
  refine pure_of Tryz.func94 rfl Tryz.ntmps94 rfl fun w => ?_
  refine cw_sr ?_
  refine steps_s (s_boxA 1 rfl rfl fun b1 => ?_)  -- simplex.go:137
  refine steps_s (s_allocA 2 rfl zer31 fun b2 => ?_)  -- simplex.go:137
  refine steps_nil ?_
  refine cw_sd mixed [0, 1, 2, 3, 4, 5, 6, 7, 8, 9, 10, 11, 12, 13, 14, 15, 16] 1 (without _ [2]) (by kernel_rfl) (sub_without _ _) ?_
  refine qi_q rfl rfl (q_field fld33_0 rfl) ?_  -- simplex.go:138
  refine qi_q rfl rfl (q_loadA 1 agg31 rfl rfl (sp0 n)) ?_  -- simplex.go:138
  refine qi_q rfl rfl (q_field fld33_0 rfl) ?_  -- simplex.go:138
  refine qi_q rfl rfl (q_loadA 1 agg31 rfl rfl (sp0 n)) ?_  -- simplex.go:138
  refine qi_q rfl rfl (q_pure ent93 rfl (simplex_times (f a) (f a) fa)) ?_  -- simplex.go:138
  refine qi_q rfl rfl (q_field fld33_1 rfl) ?_  -- simplex.go:138
  refine qi_q rfl rfl (q_loadA 1 agg31 rfl rfl (sp1 n)) ?_  -- simplex.go:138
  refine qi_q rfl rfl (q_field fld33_1 rfl) ?_  -- simplex.go:138
  refine qi_q rfl rfl (q_loadA 1 agg31 rfl rfl (sp1 n)) ?_  -- simplex.go:138
  refine qi_q rfl rfl (q_pure ent93 rfl (simplex_times (f b) (f b) fb)) ?_  -- simplex.go:138
  refine qi_q rfl rfl (q_pure ent105 rfl (simplex_plus fa fb fab)) ?_  -- simplex.go:138
  refine qi_q rfl rfl (q_field fld33_2 rfl) ?_  -- simplex.go:138
  refine qi_q rfl rfl (q_loadA 1 agg31 rfl rfl (sp2 n)) ?_  -- simplex.go:138
  refine qi_q rfl rfl (q_field fld33_2 rfl) ?_  -- simplex.go:138
  refine qi_q rfl rfl (q_loadA 1 agg31 rfl rfl (sp2 n)) ?_  -- simplex.go:138
  refine qi_q rfl rfl (q_pure ent93 rfl (simplex_times (f c) (f c) fc)) ?_  -- simplex.go:138
  refine qi_q rfl rfl (q_pure ent105 rfl (simplex_plus fab fc fabc)) ?_  -- simplex.go:138
  refine qi_nil ?_
  refine tail_one 17 (by kernel_rfl) rfl rfl (s_storeW 2 siz31 rfl rfl rfl rfl rfl rfl ⟨(subl_cons rfl (sub_without _ _)), ?_⟩)  -- simplex.go:138
  refine tail_nil (by kernel_rfl) ?_
  refine cw_ret ?_
  exact ret_pure rfl (rv_agg 2 agg31 rfl rfl rfl rv_nil) rfl
def pastB (n : Sp) (d : Int) (p : Pt) : Bool := decide (dotS n p * d < sqS n)
theorem cmpI_lt (x y : Int) : binI .lss .i64 (cmpI x y) .i64 0 = some (.bool (decide (x < y))) := by
  simp only [binI, if_true, cmpI]
  congr 2
  split
  · rename_i h; exact (decide_eq_true (by omega)).trans (decide_eq_true h).symm
  · rename_i h; split <;> exact (decide_eq_false (by omega)).trans (decide_eq_false h).symm

theorem simplex_Past {m : Nr} {p : Pt} (hn : m.n.In Mid) (hd : -Mid ≤ m.d ∧ m.d ≤ Mid) (hp : p.In P40) : PureF Tryz.prog 60 [.agg m.l.toArray, .agg p.l.toArray] (.bool (pastB m.n m.d p)) := by
  have hA := alFits hn hp (by decide) (by decide) (by decide)
  have hb := dotS_bd hn hp
  have hm := mul_bd hb hd
  have fd : Fits m.d := fits_big (bd_big hd (by decide))
  have fs : Fits (dotS m.n p) := fits_big (bd_big hb (by decide))
  have fm : Fits (dotS m.n p * m.d) := fits_big (bd_big hm (by decide))
  have qa := sq_bd hn.1
  have qb := sq_bd hn.2.1
  have qc := sq_bd hn.2.2
  have e : Mid * Mid = 2839213766779714416208296124562517712318911565184836172974571090549372219192960637992933791850638927971728600024477257552869537611776 := by decide
  rw [e] at qa qb qc
  have fq : Fits (sqS m.n) := fits_big (by unfold Big sqS; omega)
  refine pure_of Tryz.func60 rfl Tryz.ntmps60 rfl fun w => ?_
  refine cw_sr ?_
  refine steps_s (s_boxA 2 rfl rfl fun b2 => ?_)  -- simplex.go:142
  refine steps_s (s_boxA 3 rfl rfl fun b3 => ?_)  -- simplex.go:142
  refine steps_q rfl (q_assign rfl) ?_  -- simplex.go:142
  refine steps_nil ?_
  refine cw_sr ?_
  refine steps_q rfl (q_field fld36_0 rfl) ?_  -- simplex.go:143
  refine steps_q rfl (q_loadA 2 agg33 rfl rfl (nr0 m)) ?_  -- simplex.go:143
  refine steps_q rfl (q_loadW 3 agg47 rfl rfl rfl) ?_  -- simplex.go:143
  refine steps_q rfl (q_pure ent57 rfl (grid_Along hA)) ?_  -- simplex.go:143
  refine steps_q rfl (q_move rfl) ?_  -- simplex.go:143
  refine steps_q rfl (q_extract rfl rfl) ?_  -- simplex.go:143
  refine steps_q rfl (q_extract rfl rfl) ?_  -- simplex.go:143
  refine steps_s (s_allocA 5 rfl zer31 fun b5 => ?_)  -- simplex.go:143
  refine steps_s (s_storeW 5 siz31 rfl rfl rfl rfl rfl rfl ?_)  -- simplex.go:143
  refine steps_q rfl (q_assign rfl) ?_  -- simplex.go:143
  refine steps_nil ?_
  refine cw_sd mixed [0, 1, 2, 3, 4, 5, 6, 7, 8, 9] 0 _ (by kernel_rfl) (SubL.refl _) ?_
  refine qi_q rfl rfl (q_loadW 5 agg31 rfl rfl rfl) ?_  -- simplex.go:144
  refine qi_q rfl rfl (q_field fld36_1 rfl) ?_  -- simplex.go:144
  refine qi_q rfl rfl (q_loadA 2 agg31 rfl rfl (nr1 m)) ?_  -- simplex.go:144
  refine qi_q rfl rfl (q_pure ent93 rfl (simplex_times fs fd fm)) ?_  -- simplex.go:144
  refine qi_q rfl rfl (q_field fld36_0 rfl) ?_  -- simplex.go:144
  refine qi_q rfl rfl (q_loadA 2 agg33 rfl rfl (nr0 m)) ?_  -- simplex.go:144
  refine qi_q rfl rfl (q_pure ent94 rfl (simplex_square hn)) ?_  -- simplex.go:144
  refine qi_q rfl rfl (q_pure ent58 rfl (wide_Cmp _ _ fm fq)) ?_  -- simplex.go:144
  refine qi_q rfl rfl (q_bin rfl rfl (cmpI_lt _ _)) ?_  -- simplex.go:144
  refine qi_q rfl rfl (q_assign rfl) ?_  -- simplex.go:144
  refine qi_nil ?_
  refine tail_nil (by kernel_rfl) ?_
  refine cw_ret ?_
  exact ret_pure rfl (rv_tmp rfl rv_nil) rfl
end Go.Proofs.YtomdahjakkifbaaGreat

/-
  Two fractions, by their whole parts and what is left.
-/
namespace Go.NP
open Go Go.RowKit
def cmp3 (x y : Int) : Int := if x < y then -1 else if x = y then 0 else 1
theorem cmp3_lt {x y : Int} (h : x < y) : cmp3 x y = -1 := if_pos h
theorem cmp3_eq {x y : Int} (h : x = y) : cmp3 x y = 0 := by unfold cmp3; rw [if_neg (by omega), if_pos h]
theorem cmp3_gt {x y : Int} (h : y < x) : cmp3 x y = 1 := by unfold cmp3; rw [if_neg (by omega), if_neg (by omega)]
theorem cmp3_neg (x y : Int) : cmp3 y x = -cmp3 x y := by unfold cmp3; split <;> split <;> (try split) <;> (try split) <;> omega
/-- The whole parts are not alike. -/
theorem frac_whole {x y p q : Int} (hp : 0 < p) (hq : 0 < q) (h : x / p ≠ y / q) : cmp3 (x * q) (y * p) = cmp3 (x / p) (y / q) := by
  have e1 := Int.mul_ediv_add_emod x p
  have e2 := Int.mul_ediv_add_emod y q
  have r0 := Int.emod_nonneg x (by omega : p ≠ 0)
  have r1 := Int.emod_lt_of_pos x hp
  have s0 := Int.emod_nonneg y (by omega : q ≠ 0)
  have s1 := Int.emod_lt_of_pos y hq
  generalize x / p = i at *
  generalize y / q = k at *
  generalize x % p = r at *
  generalize y % q = s at *
  have t1 : r * q < p * q := Int.mul_lt_mul_of_pos_right r1 hq
  have t2 : s * p < q * p := Int.mul_lt_mul_of_pos_right s1 hp
  have t3 : 0 ≤ r * q := Int.mul_nonneg r0 (by omega)
  have t4 : 0 ≤ s * p := Int.mul_nonneg s0 (by omega)
  have hpq : 0 < p * q := Int.mul_pos hp hq
  have c : q * p = p * q := Int.mul_comm q p
  have ex : x * q = i * (p * q) + r * q := by rw [← e1]; grind
  have ey : y * p = k * (p * q) + s * p := by rw [← e2]; grind
  rcases Int.lt_or_gt_of_ne h with hl | hl
  · rw [cmp3_lt hl, cmp3_lt]
    have : (i + 1) * (p * q) ≤ k * (p * q) := Int.mul_le_mul_of_nonneg_right (by omega) (Int.le_of_lt hpq)
    rw [Int.add_mul, Int.one_mul] at this
    omega
  · rw [cmp3_gt hl, cmp3_gt]
    have : (k + 1) * (p * q) ≤ i * (p * q) := Int.mul_le_mul_of_nonneg_right (by omega) (Int.le_of_lt hpq)
    rw [Int.add_mul, Int.one_mul] at this
    omega
/-- They are alike: what is left, turned over. -/
theorem frac_rest {x y p q : Int} (h : x / p = y / q) : cmp3 (x * q) (y * p) = cmp3 (x % p * q) (y % q * p) := by
  have e1 := Int.mul_ediv_add_emod x p
  have e2 := Int.mul_ediv_add_emod y q
  rw [h] at e1
  have ex : x * q = y / q * (p * q) + x % p * q := by conv => lhs; rw [← e1]
                                                      grind
  have ey : y * p = y / q * (p * q) + y % q * p := by conv => lhs; rw [← e2]
                                                      grind
  rw [ex, ey]
  unfold cmp3
  split <;> split <;> (try split) <;> (try split) <;> omega
end Go.NP

/-
  The walks of package simplex: Cmp.
-/
namespace Go.Proofs.YtomdahjakkifbaaGreat
open Go Go.NP Go.RowKit Go.Proofs
set_option maxRecDepth 100000

theorem cmp3_I (x y : Int) : cmp3 x y = cmpI x y := rfl
/-- Which of two is nearer. -/
def nearI (a b : Nr) : Int := cmp3 (sqS a.n * (b.d * b.d)) (sqS b.n * (a.d * a.d))
structure CmI (G x y p q t : Int) : Prop where
  x0 : 0 ≤ x
  x1 : x ≤ Big
  y0 : 0 ≤ y
  y1 : y ≤ Big
  p0 : 0 < p
  p1 : p ≤ Big
  q0 : 0 < q
  q1 : q ≤ Big
  t1 : t = 1 ∨ t = -1
  g : G = t * cmp3 (x * q) (y * p)
theorem sgn_is {x : Int} (h : x = 0) : binI .eql .i64 (sgnI x) .i64 0 = some (.bool true) := by subst h; rfl
theorem sgn_isnt {x : Int} (h : ¬ x = 0) : binI .eql .i64 (sgnI x) .i64 0 = some (.bool false) := by
  have := sgnI_ne x
  simp only [h, decide_false, Bool.not_false] at this
  simp only [binI, if_true]
  rw [show (sgnI x == 0) = false by simpa using this]
theorem fits_pos {x : Int} (h0 : 0 ≤ x) (h1 : x ≤ Big) : Fits x := fits_big (by unfold Big at *; omega)
theorem sq_in {n : Sp} (h : n.In Mid) : 0 ≤ sqS n ∧ sqS n ≤ Big := by
  have qa := sq_bd h.1
  have qb := sq_bd h.2.1
  have qc := sq_bd h.2.2
  have e : Mid * Mid = 2839213766779714416208296124562517712318911565184836172974571090549372219192960637992933791850638927971728600024477257552869537611776 := by decide
  rw [e] at qa qb qc
  unfold sqS Big; omega
theorem d_in {d : Int} (h0 : 0 < d) (h1 : d ≤ Mid) : 0 < d * d ∧ d * d ≤ Big := by
  have e : Mid * Mid ≤ Big := by decide
  have := (mul_bd (A := Mid) (C := Mid) (a := d) (b := d) ⟨by omega, h1⟩ ⟨by omega, h1⟩).2
  exact ⟨Int.mul_pos h0 h0, by omega⟩

end Go.Proofs.YtomdahjakkifbaaGreat

/-
  The walks of package simplex: sum.
-/
namespace Go.Proofs.YtomdahjakkifbaaGreat
open Go Go.NP Go.RowKit Go.Proofs
set_option maxRecDepth 100000

theorem sum_by {a g : Int} {bg : Nat} (w : World) (hb : w.heap[bg]? = some (.cells (Wl g).toArray 31 (0, 0))) (ha : Fits a) (hg : Fits g) (h1 : 1 ≤ g) :
    Calls Tryz.prog 107 #[.agg (Wl a).toArray, .pointer (some ⟨bg, 0, none⟩)] w fun e w' => e = .returned (.agg (Wl (a / g)).toArray) ∧ Below w.heap.size w w' := by
  refine calls_of Tryz.func107 rfl Tryz.ntmps107 rfl (St.start w) (args := [.agg (Wl a).toArray, .pointer (some ⟨bg, 0, none⟩)]) ?_
  refine cw_sr ?_
  refine steps_s (s_boxA 2 rfl rfl fun b2 => ?_)  -- simplex.go:129
  refine steps_s (s_allocA 3 rfl zer31 fun b3 => ?_)  -- simplex.go:129
  refine steps_nil ?_
  refine cw_sr ?_
  refine steps_q rfl (q_loadW 2 agg31 rfl rfl rfl) ?_  -- simplex.go:130
  refine steps_q rfl (q_loadAo agg31 rfl hb (by simp) (Part.whole rfl)) ?_  -- simplex.go:130
  refine steps_q rfl (q_pure ent106 rfl (wide_Div ha hg h1)) ?_  -- simplex.go:130
  refine steps_q rfl (q_move rfl) ?_  -- simplex.go:130
  refine steps_q rfl (q_extract rfl rfl) ?_  -- simplex.go:130
  refine steps_q rfl (q_extract rfl rfl) ?_  -- simplex.go:130
  refine steps_q rfl (q_extract rfl rfl) ?_  -- simplex.go:130
  refine steps_s (s_allocA 4 rfl zer31 fun b4 => ?_)  -- simplex.go:130
  refine steps_s (s_allocA 5 rfl zer31 fun b5 => ?_)  -- simplex.go:130
  refine steps_s (s_storeW 4 siz31 rfl rfl rfl rfl rfl rfl ?_)  -- simplex.go:130
  refine steps_s (s_storeW 5 siz31 rfl rfl rfl rfl rfl rfl ?_)  -- simplex.go:130
  refine steps_q rfl (q_assign rfl) ?_  -- simplex.go:130
  refine steps_nil ?_
  refine cw_sr ?_
  refine steps_q rfl (q_loadW 4 agg31 rfl rfl rfl) ?_  -- simplex.go:131
  refine steps_s (s_storeW 3 siz31 rfl rfl rfl rfl rfl rfl ?_)  -- simplex.go:131
  refine steps_nil ?_
  refine cw_ret ?_
  exact ret_pure rfl (rv_agg 3 agg31 rfl rfl rfl rv_nil) rfl

/-! ## Sums by weights -/
def Sp.c (s : Sp) (i : Int) : Int := if i = 0 then s.x else if i = 1 then s.y else s.z
def Sp.set (s : Sp) (i v : Int) : Sp := if i = 0 then ⟨v, s.y, s.z⟩ else if i = 1 then ⟨s.x, v, s.z⟩ else ⟨s.x, s.y, v⟩
theorem sp_get (s : Sp) {i : Int} (h0 : 0 ≤ i) (h1 : i < 3) : Part s.l (0 + i.toNat * 8) 8 (Wl (s.c i)) := by
  have : i = 0 ∨ i = 1 ∨ i = 2 := by omega
  rcases this with rfl | rfl | rfl <;> exact ⟨rfl, rfl⟩
theorem sp_fit (s : Sp) {i : Int} (h0 : 0 ≤ i) (h1 : i < 3) : 0 + i.toNat * 8 + 8 ≤ s.l.length := by
  show _ ≤ 24; omega
theorem sp_wr (s : Sp) {i : Int} (h0 : 0 ≤ i) (h1 : i < 3) (v : Int) : wr s.l (0 + i.toNat * 8) (Wl v) = (s.set i v).l := by
  have : i = 0 ∨ i = 1 ∨ i = 2 := by omega
  rcases this with rfl | rfl | rfl <;> rfl
theorem Sp.c_set (s : Sp) {i j : Int} (v : Int) (h0 : 0 ≤ i) (h1 : i < 3) (k0 : 0 ≤ j) (k1 : j < 3) : (s.set i v).c j = if j = i then v else s.c j := by
  have hi : i = 0 ∨ i = 1 ∨ i = 2 := by omega
  have hj : j = 0 ∨ j = 1 ∨ j = 2 := by omega
  rcases hi with rfl | rfl | rfl <;> rcases hj with rfl | rfl | rfl <;> rfl
theorem Sp.ext_c {s t : Sp} (h : ∀ j, 0 ≤ j → j < 3 → s.c j = t.c j) : s = t := by
  cases s; cases t
  have h0 := h 0 (by decide) (by decide)
  have h1 := h 1 (by decide) (by decide)
  have h2 := h 2 (by decide) (by decide)
  simp only [Sp.c] at h0 h1 h2
  simp_all
def addW (s : Sp) (u : Int) (p : Pt) : Sp := ⟨s.x + u * p.x, s.y + u * p.y, s.z + u * p.z⟩
def sumR : List Pt → List Int → Sp → Sp
  | p :: r, u :: v, s => sumR r v (addW s u p)
  | _, _, s => s
theorem sumR_nil (v : List Int) (s : Sp) : sumR [] v s = s := by cases v <;> rfl
theorem addW_c (s : Sp) (u : Int) (p : Pt) (j : Int) : (addW s u p).c j = s.c j + u * p.c j := by
  unfold Sp.c addW Pt.c; split <;> (try split) <;> rfl
/-- 2^190, 2^218. -/
def W190 : Int := 1569275433846670190958947355801916604025588861116008628224
def W218 : Int := 421249166674228746791672110734681729275580381602196445017243910144
def WsAt (w : World) (v : Value) (ws : List Int) : Prop := SlAt w 31 8 v (ws.map Wl)

def gcdC (d : Int) (s : Sp) : Nat → Int
  | 0 => d
  | k + 1 => (Int.gcd (gcdC d s k) (s.c k) : Int)
theorem sgn_lss (x : Int) : binI .lss .i64 (sgnI x) .i64 0 = some (.bool (decide (x < 0))) := by
  simp only [binI, if_true, sgnI]
  congr 2
  split
  · rename_i h; exact (decide_eq_true (by omega)).trans (decide_eq_true h).symm
  · rename_i h; split <;> exact (decide_eq_false (by omega)).trans (decide_eq_false h).symm
def abI (x : Int) : Int := if x < 0 then -x else x
theorem abI_nn (x : Int) : 0 ≤ abI x := by unfold abI; split <;> omega
theorem abI_le {x k : Int} (h : -k ≤ x ∧ x ≤ k) : abI x ≤ k := by unfold abI; split <;> omega
theorem gcd_abI (g x : Int) : (Int.gcd g (abI x) : Int) = Int.gcd g x := by unfold abI; split <;> simp
theorem gcd_mod (g x : Int) : (Int.gcd x (g % x) : Int) = Int.gcd g x := by
  congr 1
  rw [Int.gcd_comm g x, Int.emod_def]
  simp
section
variable {P : Program} {w0 : World} {M : List Nat} {N : Nat} {D : Dfr} {T : TL} {L : HL}
theorem q_indexVA {d : Option Tmp} {x y : Operand} {l vs : List Value} {n s : Nat} {k : IntKind} {i : Int} {t e t' : TypeId} {p : String} {af : Array Edge} {g : Option (Nat × Bool)} (hA : Arr P t e n s) (hG : Agg P e s)
    (hx : ev T x = some (.agg l.toArray)) (hy : ev T y = some (.int k i)) (h0 : 0 ≤ i) (h1 : i < n) (hp : Part l (i.toNat * s) s vs) :
    Quiet P w0 M N D { dst := d, op := .index t x y, type := t', pos := p, after := af, guard := g } T L (.agg vs.toArray) :=
  q_run fun a w ha _ => by
    have hs : Siz P e s := hA.2
    have := run_part_agg hG hp w
    simp [execOp, ha.ev hx, ha.ev hy, Instr.index, asIntOf, run_underlying hA.1, h0, h1, Go.NP.run_sizeOf hs, this]
end
theorem sp_of_in {s : Sp} {k : Int} (h : s.In k) {i : Int} (h0 : 0 ≤ i) (h1 : i < 3) : -k ≤ s.c i ∧ s.c i ≤ k := by
  have : i = 0 ∨ i = 1 ∨ i = 2 := by omega
  obtain ⟨a, b, c⟩ := h
  rcases this with rfl | rfl | rfl <;> assumption
theorem sp_in_of {s : Sp} {k : Int} (h : ∀ i, 0 ≤ i → i < 3 → -k ≤ s.c i ∧ s.c i ≤ k) : s.In k := ⟨h 0 (by decide) (by decide), h 1 (by decide) (by decide), h 2 (by decide) (by decide)⟩
theorem addW_bd {s : Sp} {k y : Int} {p : Pt} (h : s.In (k * W218)) (hy : -W190 ≤ y ∧ y ≤ W190) (hp : p.In 268435456) : (addW s y p).In ((k + 1) * W218) := sp_in_of fun i h0 h1 => by
  have a := sp_of_in h h0 h1
  have b := mul_bd hy (Pt.of_in hp h0 h1)
  have e218 : W190 * 268435456 = W218 := by decide
  rw [e218] at b
  rw [addW_c, Int.add_mul, Int.one_mul]
  omega
theorem sum_step {s q : Sp} {y i j : Int} {p : Pt} (hq : ∀ j, 0 ≤ j → j < 3 → q.c j = if j < i then s.c j + y * p.c j else s.c j) (hqi : q.c i = s.c i) (h0 : 0 ≤ j) (h1 : j < 3) :
    (if j = i then q.c i + y * p.c i else q.c j) = if j < i + 1 then s.c j + y * p.c j else s.c j := by
  by_cases hji : j = i
  · subst hji; rw [if_pos rfl, if_pos (by omega), hqi]
  · rw [if_neg hji, hq j h0 h1]
    by_cases hl : j < i
    · rw [if_pos hl, if_pos (by omega)]
    · rw [if_neg hl, if_neg (by omega)]
theorem gcdC_pos {d : Int} (h : 1 ≤ d) (s : Sp) : ∀ k, 1 ≤ gcdC d s k
  | 0 => h
  | k + 1 => by
    have := gcdC_pos h s k
    simp only [gcdC]
    have h2 : 0 < Int.gcd (gcdC d s k) (s.c k) := Int.gcd_pos_of_ne_zero_left _ (by omega)
    omega
theorem gcdC_le {d : Int} (h : 1 ≤ d) (s : Sp) : ∀ k, gcdC d s k ≤ d
  | 0 => Int.le_refl d
  | k + 1 => by
    have h1 := gcdC_pos h s k
    have h2 := gcdC_le h s k
    have h3 : ((Int.gcd (gcdC d s k) (s.c k) : Nat) : Int) ≤ gcdC d s k := Int.le_of_dvd (by omega) (Int.gcd_dvd_left _ _)
    simp only [gcdC]; omega
/-- The nearest point of weights, made small. -/
def nrSum (t : Sp) (d : Int) : Nr := ⟨⟨t.x / gcdC d t 3, t.y / gcdC d t 3, t.z / gcdC d t 3⟩, d / gcdC d t 3, .slice none 0 0⟩
theorem bldN (m : Sp) (d : Int) : ∀ w, (Instr.build 36 [(0, Value.agg m.l.toArray), (1, Value.agg (Wl d).toArray)].toArray).run Tryz.prog w = .ok (.agg (Nr.l ⟨m, d, .slice none 0 0⟩).toArray) w := fun w => by kernel_rfl

set_option maxHeartbeats 4000000 in
theorem simplex_sum {ps : List Pt} {ws : List Int} {v u : Value} {d : Int} (w : World) (hv : PtsAt w v ps) (hu : WsAt w u ws) (hl : ps.length = ws.length) (h4 : ps.length ≤ 4) (hp : okPts ps) (hw : ∀ x ∈ ws, -W190 ≤ x ∧ x ≤ W190) (d1 : 1 ≤ d) (d2 : d ≤ Mid) :
    Calls Tryz.prog 68 #[v, u, .agg (Wl d).toArray] w fun e w' => e = .returned (.agg (nrSum (sumR ps ws ⟨0, 0, 0⟩) d).l.toArray) ∧ Below w.heap.size w w' := by
  obtain ⟨a, c, rfl, hs⟩ := hv
  obtain ⟨a', c', rfl, hs'⟩ := hu
  rw [List.length_map, List.length_map]
  obtain ⟨tot, htot⟩ : ∃ t, sumR ps ws ⟨0, 0, 0⟩ = t := ⟨_, rfl⟩
  rw [htot]
  have fd : Fits d := fits_big (by unfold Mid at d2; unfold Big; omega)
  refine calls_of Tryz.func68 rfl Tryz.ntmps68 rfl (St.start w) (args := [.slice a ps.length c, .slice a' ws.length c', .agg (Wl d).toArray]) ?_
  refine cw_sr ?_
  refine steps_s (s_boxA 5 rfl rfl fun b5 => ?_)  -- simplex.go:112
  refine steps_s (s_allocA 6 rfl zer36 fun b6 => ?_)  -- simplex.go:112
  refine steps_nil ?_
  refine cw_sr ?_
  refine steps_s (s_allocA 7 rfl zer141 fun b7 => ?_)  -- simplex.go:113
  refine steps_nil ?_
  refine cw_seq ?_
  refine cw_sr ?_
  refine steps_q rfl (q_move rfl) ?_  -- simplex.go:114
  refine steps_q rfl (q_lenSl Tryz.underlying22 rfl) ?_  -- simplex.go:114
  refine steps_q rfl (q_move rfl) ?_  -- simplex.go:114
  refine steps_nil ?_
  refine cw_block ?_
  -- LOOP 1 writes [8, 9, 10, 11, 21, 22, 23, 24, 25, 26, 27, 28, 29, 30, 31, 32, 33, 34, 35, 36, 37, 38, 39, 40, 41, 42, 43, 44, 45, 46, 47, 48, 49, 50, 51]  stores via [9, 49]  reads [1, 7, 19, 20]
  refine cw_loop (S := Int × Sp) (fun s => [(0, .slice a ps.length c), (1, .slice a' ws.length c'), (5, .pointer (some ⟨b5, 0, none⟩)), (6, .pointer (some ⟨b6, 0, none⟩)), (7, .pointer (some ⟨b7, 0, none⟩)), (19, .slice a ps.length c), (20, .int .i64 ps.length), (21, .int .i64 s.1)]) (fun s => [(5, (b5, .cells (Wl d).toArray 31 (0, 0))), (6, (b6, .cells (Nr.l ⟨⟨0, 0, 0⟩, 0, .slice none 0 0⟩).toArray 36 (0, 0))), (7, (b7, .cells (Sp.l s.2).toArray 141 (0, 0)))]) (fun s => 0 ≤ s.1 ∧ s.1 ≤ ps.length ∧ sumR (ps.drop s.1.toNat) (ws.drop s.1.toNat) s.2 = tot ∧ s.2.In (s.1 * W218)) (fun s => (ps.length - s.1).toNat) (0, ⟨0, 0, 0⟩) ⟨by dsimp only; omega, by dsimp only; omega, htot, by unfold Sp.In; dsimp only; omega⟩ (subs ⟨rfl, rfl, rfl, rfl, rfl, rfl, rfl, rfl, trivial⟩) (subs ⟨rfl, rfl, rfl, trivial⟩) ?_
  rintro ⟨k, s⟩ ⟨k0, k1, hsum, hin⟩
  dsimp only at k0 k1 hsum hin
  conv => enter [7]; dsimp only
  conv => enter [8]; dsimp only
  refine cw_sr ?_
  refine steps_q rfl (q_bin rfl rfl rfl) ?_  -- simplex.go:114
  refine steps_nil ?_
  refine cw_seq ?_
  refine cw_cond _ rfl (fun hc1 => ?_) (fun hc1 => ?_)
  · -- yes 1
    have hc : k < ps.length := of_decide_eq_true hc1
    obtain ⟨p, hpk⟩ : ∃ p, ps[k.toNat]? = some p := ⟨ps[k.toNat]'(by omega), List.getElem?_eq_getElem (by omega)⟩
    obtain ⟨y, hyk⟩ : ∃ y, ws[k.toNat]? = some y := ⟨ws[k.toNat]'(by omega), List.getElem?_eq_getElem (by omega)⟩
    have hpl : (ps.map Pt.l)[k.toNat]? = some p.l := by rw [List.getElem?_map, hpk]; rfl
    have hyl : (ws.map Wl)[k.toNat]? = some (Wl y) := by rw [List.getElem?_map, hyk]; rfl
    obtain ⟨bl, off, l, fz, rfl, hb, hpt⟩ := hs.resolve_left (by intro h; rw [h] at hpl; simp at hpl)
    obtain ⟨bl', off', l', fz', rfl, hb', hpt'⟩ := hs'.resolve_left (by intro h; rw [h] at hyl; simp at hyl)
    have hpin := hp p (List.mem_of_getElem? hpk)
    have hyin := hw y (List.mem_of_getElem? hyk)
    rw [drop_at hpk, drop_at hyk, sumR] at hsum
    have hk' : (k + 1).toNat = k.toNat + 1 := by omega
    have fy : Fits y := fits_big (by unfold W190 at hyin; unfold Big; omega)
    refine cw_skip ?_
    refine at_then ?_
    refine cw_seq ?_
    refine cw_block ?_
    refine cw_sr ?_
    refine steps_q rfl (q_move rfl) ?_  -- simplex.go:114
    refine steps_q rfl (q_indexSl slc22 rfl rfl k0 hc) ?_  -- simplex.go:114
    refine steps_q rfl (q_loadAo agg47 rfl hb (by simp) (hpt _ _ hpl)) ?_  -- simplex.go:114
    refine steps_s (s_allocA 9 rfl zer47 fun b9 => ?_)  -- simplex.go:114
    refine steps_q rfl (q_assign rfl) ?_  -- simplex.go:114
    refine steps_s (s_storeW 9 siz47 rfl rfl rfl rfl rfl rfl ?_)  -- simplex.go:114
    refine steps_nil ?_
    refine cw_sr ?_
    refine steps_q rfl (q_field fld47_0 rfl) ?_  -- simplex.go:115
    refine steps_q rfl (q_load1 9 one2 rfl rfl rfl) ?_  -- simplex.go:115
    refine steps_q rfl (q_field fld47_1 rfl) ?_  -- simplex.go:115
    refine steps_q rfl (q_load1 9 one2 rfl rfl rfl) ?_  -- simplex.go:115
    refine steps_q rfl (q_field fld47_2 rfl) ?_  -- simplex.go:115
    refine steps_q rfl (q_load1 9 one2 rfl rfl rfl) ?_  -- simplex.go:115
    refine steps_q rfl (q_build (vs := [(0, _), (1, _), (2, _)]) rfl rfl (bldA3 p)) ?_  -- simplex.go:115
    refine steps_q rfl (q_move rfl) ?_  -- simplex.go:115
    refine steps_nil ?_
    refine cw_block ?_
    -- LOOP 2 writes [10, 11, 33, 34, 35, 36, 37, 38, 39, 40, 41, 42, 43, 44, 45, 46, 47, 48, 49, 50]  stores via [49]  reads [1, 7, 8, 32]
    refine cw_loop (S := Int × Sp) (fun q => [(0, .slice (some ⟨bl, off, none⟩) ps.length c), (1, .slice (some ⟨bl', off', none⟩) ws.length c'), (5, .pointer (some ⟨b5, 0, none⟩)), (6, .pointer (some ⟨b6, 0, none⟩)), (7, .pointer (some ⟨b7, 0, none⟩)), (19, .slice (some ⟨bl, off, none⟩) ps.length c), (20, .int .i64 ps.length), (21, .int .i64 k), (8, .int .i64 k), (32, .agg #[Value.int .i64 p.x, .int .i64 p.y, .int .i64 p.z]), (33, .int .i64 q.1)]) (fun q => [(5, (b5, .cells (Wl d).toArray 31 (0, 0))), (6, (b6, .cells (Nr.l ⟨⟨0, 0, 0⟩, 0, .slice none 0 0⟩).toArray 36 (0, 0))), (7, (b7, .cells (Sp.l q.2).toArray 141 (0, 0)))]) (fun q => 0 ≤ q.1 ∧ q.1 ≤ 3 ∧ ∀ j, 0 ≤ j → j < 3 → q.2.c j = if j < q.1 then s.c j + y * p.c j else s.c j) (fun q => (3 - q.1).toNat) (0, s) ⟨by dsimp only; omega, by dsimp only; omega, fun j h0 h1 => by rw [if_neg (by dsimp only; omega)]⟩ (subs ⟨rfl, rfl, rfl, rfl, rfl, rfl, rfl, rfl, rfl, rfl, rfl, trivial⟩) (subs ⟨rfl, rfl, rfl, trivial⟩) ?_
    rintro ⟨i, q⟩ ⟨i0, i1, hq⟩
    dsimp only at i0 i1 hq
    conv => enter [7]; dsimp only
    conv => enter [8]; dsimp only
    refine cw_sr ?_
    refine steps_q rfl (q_bin rfl rfl rfl) ?_  -- simplex.go:115
    refine steps_nil ?_
    refine cw_seq ?_
    refine cw_cond _ rfl (fun hc2 => ?_) (fun hc2 => ?_)
    · -- yes 2
      have hi : i < 3 := of_decide_eq_true hc2
      have hpc := Pt.of_in hpin i0 hi
      have hpr := mul_bd hyin hpc
      have hsc := sp_of_in hin i0 hi
      have hqi : q.c i = s.c i := by rw [hq i i0 hi, if_neg (by omega)]
      have e218 : W190 * 268435456 = W218 := by decide
      have hk4 : k * W218 ≤ 4 * W218 := Int.mul_le_mul_of_nonneg_right (by omega) (by decide)
      have fq : Fits (q.c i) := fits_big (by rw [hqi]; unfold W218 at *; unfold Big; omega)
      have fm : Fits (y * p.c i) := fits_big (by rw [e218] at hpr; unfold W218 at *; unfold Big; omega)
      have fa : Fits (q.c i + y * p.c i) := fits_big (by rw [hqi]; rw [e218] at hpr; unfold W218 at *; unfold Big; omega)
      refine cw_skip ?_
      refine at_then ?_
      refine cw_seq ?_
      refine cw_block ?_
      refine cw_sr ?_
      refine steps_q rfl (q_move rfl) ?_  -- simplex.go:115
      refine steps_q rfl (q_indexV1 arr66 one2 rfl rfl i0 (by omega) (p.c_get i0 hi)) ?_  -- simplex.go:115
      refine steps_q rfl (q_assign rfl) ?_  -- simplex.go:115
      refine steps_q rfl (q_assign rfl) ?_  -- simplex.go:115
      refine steps_nil ?_
      refine cw_draw mixed [0, 1, 2, 4, 5, 6, 7, 8, 9, 10] 4 (without _ [7]) (by kernel_rfl) (sub_without _ _) ?_
      refine qi_q rfl rfl (q_move rfl) ?_  -- simplex.go:116
      refine qi_q rfl rfl (q_move rfl) ?_  -- simplex.go:116
      refine qi_q rfl rfl (q_indexArr arr141 rfl rfl (by omega) (by omega)) ?_  -- simplex.go:116
      refine qi_q rfl rfl (q_move rfl) ?_  -- simplex.go:116
      refine qi_q rfl rfl (q_move rfl) ?_  -- simplex.go:116
      refine qi_q rfl rfl (q_indexSl slc106 rfl rfl k0 (by omega)) ?_  -- simplex.go:116
      refine qi_q rfl rfl (q_loadAo agg31 rfl hb' (by simp) (hpt' _ _ hyl)) ?_  -- simplex.go:116
      refine qi_q rfl rfl (q_move rfl) ?_  -- simplex.go:116
      refine qi_q rfl rfl (q_pure ent22 rfl (wide_Of (p.c i) (by omega))) ?_  -- simplex.go:116
      refine qi_q rfl rfl (q_pure ent93 rfl (simplex_times fy (fits_small (by omega)) fm)) ?_  -- simplex.go:116
      refine qi_nil ?_
      refine tail_one 3 (by kernel_rfl) rfl rfl ((q_loadA 7 agg31 rfl rfl (sp_get q i0 hi)).step rfl (by decide) ⟨(sub_without _ _), ?_⟩)  -- simplex.go:116
      refine tail_one 11 (by kernel_rfl) rfl rfl ((q_pure ent105 rfl (simplex_plus fq fm fa)).step rfl (by decide) ⟨(sub_without _ _), ?_⟩)  -- simplex.go:116
      refine tail_one 12 (by kernel_rfl) rfl rfl ((q_indexArr arr141 rfl rfl (by omega) (by omega)).step rfl (by decide) ⟨(sub_without _ _), ?_⟩)  -- simplex.go:116
      refine tail_one 13 (by kernel_rfl) rfl rfl (s_storeA 7 siz31 rfl rfl rfl rfl rfl (sp_fit q i0 hi) (sp_wr q i0 hi _) ⟨(subl_cons rfl (sub_without _ _)), ?_⟩)  -- simplex.go:116
      refine tail_nil (by kernel_rfl) ?_
      refine at_then ?_
      refine cw_region ?_
      refine steps_q rfl (q_bin rfl rfl (add64 (by omega) (by omega))) ?_  -- simplex.go:115
      refine steps_q rfl (q_move rfl) ?_  -- simplex.go:115
      refine steps_nil ?_
      exact at_round (i + 1, q.set i (q.c i + y * p.c i)) ⟨by dsimp only; omega, by dsimp only; omega, fun j h0 h1 => by dsimp only; rw [Sp.c_set _ _ i0 hi h0 h1]; exact sum_step hq hqi h0 h1⟩ (by dsimp only; omega) (subs ⟨rfl, rfl, rfl, rfl, rfl, rfl, rfl, rfl, rfl, rfl, rfl, trivial⟩) (subs ⟨rfl, rfl, rfl, trivial⟩)
    · -- no 2
      have hi : ¬ i < 3 := of_decide_eq_false hc2
      obtain rfl : q = addW s y p := Sp.ext_c fun j h0 h1 => by rw [hq j h0 h1, if_pos (by omega), addW_c]
      refine cw_exit ?_
      refine at_then ?_
      refine cw_region ?_
      refine steps_q rfl (q_bin rfl rfl (add64 (by omega) (by omega))) ?_  -- simplex.go:114
      refine steps_q rfl (q_move rfl) ?_  -- simplex.go:114
      refine steps_nil ?_
      exact at_round (k + 1, addW s y p) ⟨by dsimp only; omega, by dsimp only; omega, by dsimp only; rw [hk']; exact hsum, addW_bd hin hyin hpin⟩ (by dsimp only; omega) (subs ⟨rfl, rfl, rfl, rfl, rfl, rfl, rfl, rfl, trivial⟩) (subs ⟨rfl, rfl, rfl, trivial⟩)
  · -- no 1
    have hc : ¬ k < ps.length := of_decide_eq_false hc1
    have e1 : ps.drop k.toNat = [] := List.drop_eq_nil_of_le (by omega)
    rw [e1, sumR_nil] at hsum
    subst hsum
    have hin4 : s.In Mid := hin.mono (Int.le_trans (Int.mul_le_mul_of_nonneg_right (show k ≤ 4 by omega) (by decide)) (by decide))
    clear htot
    refine cw_exit ?_
    refine at_then ?_
    refine cw_sr ?_
    refine steps_q rfl (q_loadW 5 agg31 rfl rfl rfl) ?_  -- simplex.go:119
    refine steps_s (s_allocA 12 rfl zer31 fun b12 => ?_)  -- simplex.go:119
    refine steps_s (s_storeW 12 siz31 rfl rfl rfl rfl rfl rfl ?_)  -- simplex.go:119
    refine steps_nil ?_
    refine cw_seq ?_
    refine cw_sr ?_
    refine steps_q rfl (q_loadW 7 agg141 rfl rfl rfl) ?_  -- simplex.go:120
    refine steps_q rfl (q_move rfl) ?_  -- simplex.go:120
    refine steps_nil ?_
    refine cw_block ?_
    -- LOOP 3 writes [14, 15, 16, 54, 55, 56, 57, 58, 59, 60, 61, 62, 63, 65, 66, 67, 68, 69, 70, 71, 72, 73, 74, 75, 76, 77]  stores via [12, 14, 15, 16]  reads [12, 53]
    refine cw_loop (S := Int) (fun j => [(5, .pointer (some ⟨b5, 0, none⟩)), (6, .pointer (some ⟨b6, 0, none⟩)), (7, .pointer (some ⟨b7, 0, none⟩)), (12, .pointer (some ⟨b12, 0, none⟩)), (53, .agg s.l.toArray), (54, .int .i64 j)]) (fun j => [(5, (b5, .cells (Wl d).toArray 31 (0, 0))), (6, (b6, .cells (Nr.l ⟨⟨0, 0, 0⟩, 0, .slice none 0 0⟩).toArray 36 (0, 0))), (7, (b7, .cells s.l.toArray 141 (0, 0))), (12, (b12, .cells (Wl (gcdC d s j.toNat)).toArray 31 (0, 0)))]) (fun j => 0 ≤ j ∧ j ≤ 3) (fun j => (3 - j).toNat) 0 ⟨by omega, by omega⟩ (subs ⟨rfl, rfl, rfl, rfl, rfl, rfl, trivial⟩) (subs ⟨rfl, rfl, rfl, rfl, trivial⟩) ?_
    intro j ⟨j0, j1⟩
    refine cw_sr ?_
    refine steps_q rfl (q_bin rfl rfl rfl) ?_  -- simplex.go:120
    refine steps_nil ?_
    refine cw_seq ?_
    refine cw_cond _ rfl (fun hc3 => ?_) (fun hc3 => ?_)
    · -- yes 3
      have hj : j < 3 := of_decide_eq_true hc3
      have hx := sp_of_in hin4 j0 hj
      have fx : Fits (s.c j) := fits_big (bd_big hx (by decide))
      have g1 := gcdC_pos d1 s j.toNat
      have g2 := gcdC_le d1 s j.toNat
      have ej : gcdC d s (j + 1).toNat = (Int.gcd (gcdC d s j.toNat) (s.c j) : Int) := by
        rw [show (j + 1).toNat = j.toNat + 1 by omega]
        simp only [gcdC]
        rw [show ((j.toNat : Nat) : Int) = j by omega]
      refine cw_skip ?_
      refine at_then ?_
      refine cw_seq ?_
      refine cw_block ?_
      refine cw_sr ?_
      refine steps_q rfl (q_indexVA arr141 agg31 rfl rfl j0 hj (by have := sp_get s j0 hj; rwa [Nat.zero_add] at this)) ?_  -- simplex.go:120
      refine steps_s (s_allocA 14 rfl zer31 fun b14 => ?_)  -- simplex.go:120
      refine steps_s (s_storeW 14 siz31 rfl rfl rfl rfl rfl rfl ?_)  -- simplex.go:120
      refine steps_nil ?_
      refine cw_join (S := Unit) (fun _ => [(5, .pointer (some ⟨b5, 0, none⟩)), (6, .pointer (some ⟨b6, 0, none⟩)), (7, .pointer (some ⟨b7, 0, none⟩)), (12, .pointer (some ⟨b12, 0, none⟩)), (53, .agg s.l.toArray), (54, .int .i64 j), (14, .pointer (some ⟨b14, 0, none⟩))]) (fun _ => [(5, (b5, .cells (Wl d).toArray 31 (0, 0))), (6, (b6, .cells (Nr.l ⟨⟨0, 0, 0⟩, 0, .slice none 0 0⟩).toArray 36 (0, 0))), (7, (b7, .cells s.l.toArray 141 (0, 0))), (12, (b12, .cells (Wl (gcdC d s j.toNat)).toArray 31 (0, 0))), (14, (b14, .cells (Wl (abI (s.c j))).toArray 31 (0, 0)))]) (fun _ => True) ?_ fun _ _ => ?_
      · -- until join 4
        refine cw_sr ?_
        refine steps_q rfl (q_loadW 14 agg31 rfl rfl rfl) ?_  -- simplex.go:121
        refine steps_q rfl (q_pure ent67 rfl (wide_Sign _ fx)) ?_  -- simplex.go:121
        refine steps_q rfl (q_bin rfl rfl (sgn_lss _)) ?_  -- simplex.go:121
        refine steps_nil ?_
        refine cw_cond _ rfl (fun hc4 => ?_) (fun hc4 => ?_)
        · -- yes 4
          have hn : s.c j < 0 := of_decide_eq_true hc4
          have e : abI (s.c j) = -(s.c j) := if_pos hn
          rw [e]
          refine cw_region ?_
          refine steps_q rfl (q_loadW 14 agg31 rfl rfl rfl) ?_  -- simplex.go:122
          refine steps_q rfl (q_pure ent31 rfl (wide_Neg fx (fits_big (by unfold Mid at hx; unfold Big; omega)))) ?_  -- simplex.go:122
          refine steps_q rfl (q_move rfl) ?_  -- simplex.go:122
          refine steps_q rfl (q_extract rfl rfl) ?_  -- simplex.go:122
          refine steps_q rfl (q_extract rfl rfl) ?_  -- simplex.go:122
          refine steps_s (s_storeW 14 siz31 rfl rfl rfl rfl rfl rfl ?_)  -- simplex.go:122
          refine steps_nil ?_
          exact at_join () trivial (subs ⟨rfl, rfl, rfl, rfl, rfl, rfl, rfl, trivial⟩) (subs ⟨rfl, rfl, rfl, rfl, rfl, trivial⟩)
        · -- no 4
          have hn : ¬ s.c j < 0 := of_decide_eq_false hc4
          have e : abI (s.c j) = s.c j := if_neg hn
          rw [e]
          refine cw_skip ?_
          exact at_join () trivial (subs ⟨rfl, rfl, rfl, rfl, rfl, rfl, rfl, trivial⟩) (subs ⟨rfl, rfl, rfl, rfl, rfl, trivial⟩)
      · -- behind join 4
        refine cw_block ?_
        -- LOOP 4 writes [15, 16, 65, 66, 67, 68, 69, 70, 71, 72, 73, 74, 75, 76]  stores via [12, 14, 15, 16]  reads [12, 14]
        refine cw_loop (S := Int × Int) (fun q => [(5, .pointer (some ⟨b5, 0, none⟩)), (6, .pointer (some ⟨b6, 0, none⟩)), (7, .pointer (some ⟨b7, 0, none⟩)), (12, .pointer (some ⟨b12, 0, none⟩)), (53, .agg s.l.toArray), (54, .int .i64 j), (14, .pointer (some ⟨b14, 0, none⟩))]) (fun q => [(5, (b5, .cells (Wl d).toArray 31 (0, 0))), (6, (b6, .cells (Nr.l ⟨⟨0, 0, 0⟩, 0, .slice none 0 0⟩).toArray 36 (0, 0))), (7, (b7, .cells s.l.toArray 141 (0, 0))), (12, (b12, .cells (Wl q.1).toArray 31 (0, 0))), (14, (b14, .cells (Wl q.2).toArray 31 (0, 0)))]) (fun q => 1 ≤ q.1 ∧ q.1 ≤ Mid ∧ 0 ≤ q.2 ∧ q.2 ≤ Mid ∧ (Int.gcd q.1 q.2 : Int) = gcdC d s (j + 1).toNat) (fun q => q.2.toNat) (gcdC d s j.toNat, abI (s.c j)) ⟨g1, by dsimp only; omega, abI_nn _, abI_le hx, by rw [ej]; exact gcd_abI _ _⟩ (subs ⟨rfl, rfl, rfl, rfl, rfl, rfl, rfl, trivial⟩) (subs ⟨rfl, rfl, rfl, rfl, rfl, trivial⟩) ?_
        rintro ⟨g, x⟩ ⟨h1, h2, h3, h4', h5⟩
        dsimp only at h1 h2 h3 h4' h5
        conv => enter [7]; dsimp only
        conv => enter [8]; dsimp only
        have fg : Fits g := fits_big (by unfold Mid at h2; unfold Big; omega)
        have fx' : Fits x := fits_big (by unfold Mid at h4'; unfold Big; omega)
        refine cw_seq ?_
        refine cw_sr ?_
        refine steps_q rfl (q_loadW 14 agg31 rfl rfl rfl) ?_  -- simplex.go:124
        refine steps_q rfl (q_build (vs := []) rfl rfl bldW0) ?_  -- simplex.go:124
        refine steps_q rfl (q_aneq rfl rfl (eqlW fx' fits0) rfl) ?_  -- simplex.go:124
        refine steps_nil ?_
        refine cw_cond _ rfl (fun hc5 => ?_) (fun hc5 => ?_)
        · -- yes 5
          have hz : x ≠ 0 := by simpa using hc5
          have r0 := Int.emod_nonneg g hz
          have r1 := Int.emod_lt_of_pos g (by omega : 0 < x)
          refine cw_skip ?_
          refine at_then ?_
          refine cw_block ?_
          refine cw_sr ?_
          refine steps_q rfl (q_loadW 12 agg31 rfl rfl rfl) ?_  -- simplex.go:125
          refine steps_q rfl (q_loadW 14 agg31 rfl rfl rfl) ?_  -- simplex.go:125
          refine steps_q rfl (q_pure ent106 rfl (wide_Div fg fx' (by omega))) ?_  -- simplex.go:125
          refine steps_q rfl (q_move rfl) ?_  -- simplex.go:125
          refine steps_q rfl (q_extract rfl rfl) ?_  -- simplex.go:125
          refine steps_q rfl (q_extract rfl rfl) ?_  -- simplex.go:125
          refine steps_q rfl (q_extract rfl rfl) ?_  -- simplex.go:125
          refine steps_s (s_allocA 15 rfl zer31 fun b15 => ?_)  -- simplex.go:125
          refine steps_s (s_allocA 16 rfl zer31 fun b16 => ?_)  -- simplex.go:125
          refine steps_s (s_storeW 15 siz31 rfl rfl rfl rfl rfl rfl ?_)  -- simplex.go:125
          refine steps_s (s_storeW 16 siz31 rfl rfl rfl rfl rfl rfl ?_)  -- simplex.go:125
          refine steps_q rfl (q_assign rfl) ?_  -- simplex.go:125
          refine steps_nil ?_
          refine cw_meet (fun _ => [(5, .pointer (some ⟨b5, 0, none⟩)), (6, .pointer (some ⟨b6, 0, none⟩)), (7, .pointer (some ⟨b7, 0, none⟩)), (12, .pointer (some ⟨b12, 0, none⟩)), (53, .agg s.l.toArray), (54, .int .i64 j), (14, .pointer (some ⟨b14, 0, none⟩))]) (fun _ => [(5, (b5, .cells (Wl d).toArray 31 (0, 0))), (6, (b6, .cells (Nr.l ⟨⟨0, 0, 0⟩, 0, .slice none 0 0⟩).toArray 36 (0, 0))), (7, (b7, .cells s.l.toArray 141 (0, 0))), (12, (b12, .cells (Wl x).toArray 31 (0, 0))), (14, (b14, .cells (Wl (g % x)).toArray 31 (0, 0)))]) ?_ ?_
          · -- the orders of region 19
            refine cw_draw mixed [1] 3 (without _ [12, 14]) (by kernel_rfl) (sub_without _ _) ?_
            refine qi_q rfl rfl (q_loadW 16 agg31 rfl rfl rfl) ?_  -- simplex.go:126
            refine qi_nil ?_
            refine tail_one 0 (by kernel_rfl) rfl rfl ((q_loadW 14 agg31 rfl rfl rfl).step rfl (by decide) ⟨(sub_without _ _), ?_⟩)  -- simplex.go:126
            refine tail_one 2 (by kernel_rfl) rfl rfl (s_storeW 12 siz31 rfl rfl rfl rfl rfl rfl ⟨(subl_cons rfl (sub_without _ _)), ?_⟩)  -- simplex.go:126
            refine tail_one 3 (by kernel_rfl) rfl rfl (s_storeW 14 siz31 rfl rfl rfl rfl rfl rfl ⟨(subl_cons rfl (subl_cons rfl (sub_without _ _))), ?_⟩)  -- simplex.go:126
            refine tail_nil (by kernel_rfl) ?_
            exact at_join () (trivial) (subs ⟨rfl, rfl, rfl, rfl, rfl, rfl, rfl, trivial⟩) (subs ⟨rfl, rfl, rfl, rfl, rfl, trivial⟩)
          · -- behind region 19
            exact at_round (Q := fun _ _ _ => True) (x, g % x) ⟨by dsimp only; omega, h4', r0, by dsimp only; omega, by dsimp only; rw [← h5]; exact gcd_mod _ _⟩ (by dsimp only; omega) (subs ⟨rfl, rfl, rfl, rfl, rfl, rfl, rfl, trivial⟩) (subs ⟨rfl, rfl, rfl, rfl, rfl, trivial⟩)
        · -- no 5
          have hz : x = 0 := by simpa using hc5
          subst hz
          have eg : g = gcdC d s (j + 1).toNat := by rw [← h5, Int.gcd_zero_right]; omega
          rw [eg]
          refine cw_exit ?_
          refine at_then ?_
          refine cw_region ?_
          refine steps_q rfl (q_bin rfl rfl (add64 (by omega) (by omega))) ?_  -- simplex.go:120
          refine steps_q rfl (q_move rfl) ?_  -- simplex.go:120
          refine steps_nil ?_
          exact at_round (j + 1) ⟨by omega, by omega⟩ (by omega) (subs ⟨rfl, rfl, rfl, rfl, rfl, rfl, trivial⟩) (subs ⟨rfl, rfl, rfl, rfl, trivial⟩)
    · -- no 3
      have hj : ¬ j < 3 := of_decide_eq_false hc3
      obtain rfl : j = 3 := by omega
      have g1 := gcdC_pos d1 s 3
      have g2 := gcdC_le d1 s 3
      have fg : Fits (gcdC d s 3) := fits_big (by unfold Mid at d2; unfold Big; omega)
      have f3 : ∀ i, 0 ≤ i → i < 3 → Fits (s.c i) := fun i h0 h1 => fits_big (bd_big (sp_of_in hin4 h0 h1) (by decide))
      refine cw_exit ?_
      refine at_then ?_
      refine cw_sr ?_
      refine steps_q rfl (q_func rfl rfl) ?_  -- simplex.go:129
      refine steps_q rfl (q_assign rfl) ?_  -- simplex.go:129
      refine steps_nil ?_
      refine cw_sd mixed [0, 1, 2, 3, 4, 5, 6, 7, 8, 9, 10, 11, 12, 13, 14, 15, 16] 1 (without _ [6]) (by kernel_rfl) (sub_without _ _) ?_
      refine qi_q rfl rfl (q_move rfl) ?_  -- simplex.go:133
      refine qi_q rfl rfl (q_indexArr arr141 rfl rfl (by omega) (by omega)) ?_  -- simplex.go:133
      refine qi_q rfl rfl (q_loadA 7 agg31 rfl rfl (sp0 s)) ?_  -- simplex.go:133
      refine qi_q rfl rfl (q_call ent107 rfl rfl (fun w hw => sum_by w (hw.known 12 _ _ rfl).1 (f3 0 (by decide) (by decide)) fg g1)) ?_  -- simplex.go:133
      refine qi_q rfl rfl (q_move rfl) ?_  -- simplex.go:133
      refine qi_q rfl rfl (q_indexArr arr141 rfl rfl (by omega) (by omega)) ?_  -- simplex.go:133
      refine qi_q rfl rfl (q_loadA 7 agg31 rfl rfl (sp1 s)) ?_  -- simplex.go:133
      refine qi_q rfl rfl (q_call ent107 rfl rfl (fun w hw => sum_by w (hw.known 12 _ _ rfl).1 (f3 1 (by decide) (by decide)) fg g1)) ?_  -- simplex.go:133
      refine qi_q rfl rfl (q_move rfl) ?_  -- simplex.go:133
      refine qi_q rfl rfl (q_indexArr arr141 rfl rfl (by omega) (by omega)) ?_  -- simplex.go:133
      refine qi_q rfl rfl (q_loadA 7 agg31 rfl rfl (sp2 s)) ?_  -- simplex.go:133
      refine qi_q rfl rfl (q_call ent107 rfl rfl (fun w hw => sum_by w (hw.known 12 _ _ rfl).1 (f3 2 (by decide) (by decide)) fg g1)) ?_  -- simplex.go:133
      refine qi_q rfl rfl (q_build (vs := [(0, _), (1, _), (2, _)]) rfl rfl (bldS ⟨s.x / gcdC d s 3, s.y / gcdC d s 3, s.z / gcdC d s 3⟩)) ?_  -- simplex.go:133
      refine qi_q rfl rfl (q_move rfl) ?_  -- simplex.go:133
      refine qi_q rfl rfl (q_loadW 5 agg31 rfl rfl rfl) ?_  -- simplex.go:133
      refine qi_q rfl rfl (q_call ent107 rfl rfl (fun w hw => sum_by w (hw.known 12 _ _ rfl).1 fd fg g1)) ?_  -- simplex.go:133
      refine qi_q rfl rfl (q_build (vs := [(0, _), (1, _)]) rfl rfl (bldN ⟨s.x / gcdC d s 3, s.y / gcdC d s 3, s.z / gcdC d s 3⟩ (d / gcdC d s 3))) ?_  -- simplex.go:133
      refine qi_nil ?_
      refine tail_one 17 (by kernel_rfl) rfl rfl (s_storeW 6 siz36 rfl rfl rfl rfl rfl rfl ⟨(subl_cons rfl (sub_without _ _)), ?_⟩)  -- simplex.go:133
      refine tail_nil (by kernel_rfl) ?_
      refine cw_ret ?_
      exact ret_pure rfl (rv_agg 6 agg36 rfl rfl rfl rv_nil) rfl
end Go.Proofs.YtomdahjakkifbaaGreat

/-
  The walks of package simplex: minor, and its closures.
-/
namespace Go.Proofs.YtomdahjakkifbaaGreat
open Go Go.NP Go.RowKit Go.Proofs
set_option maxRecDepth 100000

/-- 2^60. -/
def P60 : Int := 1152921504606846976
/-- A closure that tells products, of n rows. -/
def GV (w : World) (v : Value) (n : Int) (G : Int → Int → Int) : Prop :=
  ∃ f cs, v = .func (.func f) #[] cs ∧ Ent Tryz.prog f ∧ ∀ w', Below w.heap.size w w' → ∀ i k, 0 ≤ i → i < n → 0 ≤ k → k ≤ n →
    Calls Tryz.prog f (#[.int .i64 i, .int .i64 k] ++ cs) w' fun e w2 => e = .returned (.agg (Wl (G i k)).toArray) ∧ Below w'.heap.size w' w2
theorem GV.below {w w' : World} {v : Value} {n : Int} {G : Int → Int → Int} (h : GV w v n G) (hb : Below w.heap.size w w') : GV w' v n G := by
  obtain ⟨f, cs, h1, h2, h3⟩ := h
  exact ⟨f, cs, h1, h2, fun w2 hb2 => h3 w2 (hb.trans (hb2.mono hb.size))⟩
def GBd (n : Int) (G : Int → Int → Int) : Prop := ∀ i k, 0 ≤ i → i < n → 0 ≤ k → k ≤ n → -P60 ≤ G i k ∧ G i k ≤ P60
def atI (n : Int) (G : Int → Int → Int) (wi : Int) (i k : Int) : Int := if k = wi then G i n else G i k
def twoI (n : Int) (G : Int → Int → Int) (wi : Int) (a b i k : Int) : Int := atI n G wi a i * atI n G wi b k - atI n G wi a k * atI n G wi b i
/-- What minor reads through its closures. -/
structure MM (w : World) (bw bg bn : Nat) (wi n : Int) (gv : Value) (G : Int → Int → Int) : Prop where
  w1 : w.heap[bw]? = some (.cells [.int .i64 wi].toArray 3 (0, 0))
  g1 : w.heap[bg]? = some (.cells [gv].toArray 139 (0, 0))
  n1 : w.heap[bn]? = some (.cells [.int .i64 n].toArray 3 (0, 0))
  gv : GV w gv n G

theorem minor_at {w : World} {bw bg bn : Nat} {wi n : Int} {gv : Value} {G : Int → Int → Int} (h : MM w bw bg bn wi n gv G) {i k : Int} (i0 : 0 ≤ i) (i1 : i < n) (k0 : 0 ≤ k) (k1 : k ≤ n) :
    Calls Tryz.prog 143 #[.int .i64 i, .int .i64 k, .pointer (some ⟨bw, 0, none⟩), .pointer (some ⟨bg, 0, none⟩), .pointer (some ⟨bn, 0, none⟩)] w fun e w' => e = .returned (.agg (Wl (atI n G wi i k)).toArray) ∧ Below w.heap.size w w' := by
  obtain ⟨h1, h2, h3, f, cs, rfl, he, hG⟩ := h
  have hG' : ∀ {M L w'}, St w M w' L → M = [] → ∀ k, 0 ≤ k → k ≤ n → Calls Tryz.prog f (#[] ++ [Value.int .i64 i, .int .i64 k].toArray ++ cs) w' fun e w2 => e = .returned (.agg (Wl (G i k)).toArray) ∧ Below w'.heap.size w' w2 := by
    intro M L w' hw hM k k0 k1
    subst hM
    simpa using hG w' hw.below i k i0 i1 k0 k1
  refine calls_of Tryz.func143 rfl Tryz.ntmps143 rfl (St.start w) (args := [.int .i64 i, .int .i64 k, .pointer (some ⟨bw, 0, none⟩), .pointer (some ⟨bg, 0, none⟩), .pointer (some ⟨bn, 0, none⟩)]) ?_
  refine cw_sr ?_
  refine steps_s (s_allocA 7 rfl zer31 fun b7 => ?_)  -- simplex.go:93
  refine steps_nil ?_
  refine cw_seq ?_
  refine cw_sr ?_
  refine steps_q rfl (q_move rfl) ?_  -- simplex.go:94
  refine steps_q rfl (q_load1o one3 rfl h1 (by simp) rfl) ?_  -- simplex.go:94
  refine steps_q rfl (q_bin rfl rfl rfl) ?_  -- simplex.go:94
  refine steps_nil ?_
  refine cw_cond _ rfl (fun hc1 => ?_) (fun hc1 => ?_)
  · -- yes 1
    have hk : k = wi := by simpa using hc1
    refine cw_sr ?_
    refine steps_q rfl (q_load1o one139 rfl h2 (by simp) rfl) ?_  -- simplex.go:95
    refine steps_q rfl (q_move rfl) ?_  -- simplex.go:95
    refine steps_q rfl (q_load1o one3 rfl h3 (by simp) rfl) ?_  -- simplex.go:95
    refine steps_q rfl (q_call he rfl rfl (fun w' hw => hG' hw rfl n (by omega) (by omega))) ?_  -- simplex.go:95
    refine steps_s (s_storeW 7 siz31 rfl rfl rfl rfl rfl rfl ?_)  -- simplex.go:95
    refine steps_nil ?_
    refine cw_ret ?_
    rw [show atI n G wi i k = G i n from if_pos hk]
    exact ret_pure rfl (rv_agg 7 agg31 rfl rfl rfl rv_nil) rfl
  · -- no 1
    have hk : ¬ k = wi := by simpa using hc1
    refine cw_skip ?_
    refine at_then ?_
    refine cw_sr ?_
    refine steps_q rfl (q_load1o one139 rfl h2 (by simp) rfl) ?_  -- simplex.go:97
    refine steps_q rfl (q_move rfl) ?_  -- simplex.go:97
    refine steps_q rfl (q_move rfl) ?_  -- simplex.go:97
    refine steps_q rfl (q_call he rfl rfl (fun w' hw => hG' hw rfl k k0 k1)) ?_  -- simplex.go:97
    refine steps_s (s_storeW 7 siz31 rfl rfl rfl rfl rfl rfl ?_)  -- simplex.go:97
    refine steps_nil ?_
    refine cw_ret ?_
    rw [show atI n G wi i k = G i k from if_neg hk]
    exact ret_pure rfl (rv_agg 7 agg31 rfl rfl rfl rv_nil) rfl

theorem MM.below {w w' : World} {bw bg bn : Nat} {wi n : Int} {gv : Value} {G : Int → Int → Int} (h : MM w bw bg bn wi n gv G) (hb : Below w.heap.size w w') : MM w' bw bg bn wi n gv G := by
  have k : ∀ {b : Nat} {o : Obj}, w.heap[b]? = some o → w'.heap[b]? = some o := fun {b o} hh => (hb.block b (Array.getElem?_eq_some_iff.1 hh).1).trans hh
  exact ⟨k h.w1, k h.g1, k h.n1, h.gv.below hb⟩
/-- The closure 'at', as a value. -/
def atV (bw bg bn : Nat) : Value := .func (.func 143) #[] #[.pointer (some ⟨bw, 0, none⟩), .pointer (some ⟨bg, 0, none⟩), .pointer (some ⟨bn, 0, none⟩)]
theorem atI_bd {n wi : Int} {G : Int → Int → Int} (hb : GBd n G) {i k : Int} (i0 : 0 ≤ i) (i1 : i < n) (k0 : 0 ≤ k) (k1 : k ≤ n) : -P60 ≤ atI n G wi i k ∧ atI n G wi i k ≤ P60 := by
  unfold atI; split
  · exact hb i n i0 i1 (by omega) (by omega)
  · exact hb i k i0 i1 k0 k1
theorem p60_fits {x : Int} (h : -P60 ≤ x ∧ x ≤ P60) : Fits x := fits_big (bd_big h (by decide))
theorem p120_fits {x : Int} (h : -(P60 * P60) ≤ x ∧ x ≤ P60 * P60) : Fits x := fits_big (bd_big h (by decide))
theorem twoI_bd {n wi : Int} {G : Int → Int → Int} (hb : GBd n G) {a b i k : Int} (a0 : 0 ≤ a) (a1 : a < n) (b0 : 0 ≤ b) (b1 : b < n) (i0 : 0 ≤ i) (i1 : i ≤ n) (k0 : 0 ≤ k) (k1 : k ≤ n) : -(2 * (P60 * P60)) ≤ twoI n G wi a b i k ∧ twoI n G wi a b i k ≤ 2 * (P60 * P60) := by
  have h1 := mul_bd (atI_bd (wi := wi) hb a0 a1 i0 i1) (atI_bd (wi := wi) hb b0 b1 k0 k1)
  have h2 := mul_bd (atI_bd (wi := wi) hb a0 a1 k0 k1) (atI_bd (wi := wi) hb b0 b1 i0 i1)
  unfold twoI; omega

theorem minor_two {w : World} {b7 bw bg bn : Nat} {wi n : Int} {gv : Value} {G : Int → Int → Int} (h7 : w.heap[b7]? = some (.cells [atV bw bg bn].toArray 139 (0, 0))) (h : MM w bw bg bn wi n gv G) (hb : GBd n G)
    {a b i k : Int} (a0 : 0 ≤ a) (a1 : a < n) (b0 : 0 ≤ b) (b1 : b < n) (i0 : 0 ≤ i) (i1 : i ≤ n) (k0 : 0 ≤ k) (k1 : k ≤ n) :
    Calls Tryz.prog 144 #[.int .i64 a, .int .i64 b, .int .i64 i, .int .i64 k, .pointer (some ⟨b7, 0, none⟩)] w fun e w' => e = .returned (.agg (Wl (twoI n G wi a b i k)).toArray) ∧ Below w.heap.size w w' := by
  have hat : ∀ {L : HL} {w' : World}, St w [] w' L → ∀ i k, 0 ≤ i → i < n → 0 ≤ k → k ≤ n → Calls Tryz.prog 143 (#[] ++ [Value.int .i64 i, .int .i64 k].toArray ++ #[.pointer (some ⟨bw, 0, none⟩), .pointer (some ⟨bg, 0, none⟩), .pointer (some ⟨bn, 0, none⟩)]) w' fun e w2 => e = .returned (.agg (Wl (atI n G wi i k)).toArray) ∧ Below w'.heap.size w' w2 := by
    intro L w' hw i k i0 i1 k0 k1
    simpa using minor_at (h.below hw.below) i0 i1 k0 k1
  have m1 := mul_bd (atI_bd (wi := wi) hb a0 a1 i0 i1) (atI_bd (wi := wi) hb b0 b1 k0 k1)
  have m2 := mul_bd (atI_bd (wi := wi) hb a0 a1 k0 k1) (atI_bd (wi := wi) hb b0 b1 i0 i1)
  have m3 := twoI_bd (wi := wi) hb a0 a1 b0 b1 i0 i1 k0 k1
  refine calls_of Tryz.func144 rfl Tryz.ntmps144 rfl (St.start w) (args := [.int .i64 a, .int .i64 b, .int .i64 i, .int .i64 k, .pointer (some ⟨b7, 0, none⟩)]) ?_
  refine cw_sr ?_
  refine steps_s (s_allocA 9 rfl zer31 fun b9 => ?_)  -- simplex.go:99
  refine steps_nil ?_
  refine cw_sd mixed [0, 1, 2, 3, 4, 5, 6, 7, 8, 9, 10, 11, 12, 13, 14, 15, 16, 17, 18] 1 (without _ [9]) (by kernel_rfl) (sub_without _ _) ?_
  refine qi_q rfl rfl (q_load1o one139 rfl h7 (by simp) rfl) ?_  -- simplex.go:99
  refine qi_q rfl rfl (q_move rfl) ?_  -- simplex.go:99
  refine qi_q rfl rfl (q_move rfl) ?_  -- simplex.go:99
  refine qi_q rfl rfl (q_call ent143 rfl rfl (fun w' hw => hat hw a i a0 a1 i0 i1)) ?_  -- simplex.go:99
  refine qi_q rfl rfl (q_load1o one139 rfl h7 (by simp) rfl) ?_  -- simplex.go:99
  refine qi_q rfl rfl (q_move rfl) ?_  -- simplex.go:99
  refine qi_q rfl rfl (q_move rfl) ?_  -- simplex.go:99
  refine qi_q rfl rfl (q_call ent143 rfl rfl (fun w' hw => hat hw b k b0 b1 k0 k1)) ?_  -- simplex.go:99
  refine qi_q rfl rfl (q_pure ent93 rfl (simplex_times (p60_fits (atI_bd hb a0 a1 i0 i1)) (p60_fits (atI_bd hb b0 b1 k0 k1)) (p120_fits m1))) ?_  -- simplex.go:99
  refine qi_q rfl rfl (q_load1o one139 rfl h7 (by simp) rfl) ?_  -- simplex.go:99
  refine qi_q rfl rfl (q_move rfl) ?_  -- simplex.go:99
  refine qi_q rfl rfl (q_move rfl) ?_  -- simplex.go:99
  refine qi_q rfl rfl (q_call ent143 rfl rfl (fun w' hw => hat hw a k a0 a1 k0 k1)) ?_  -- simplex.go:99
  refine qi_q rfl rfl (q_load1o one139 rfl h7 (by simp) rfl) ?_  -- simplex.go:99
  refine qi_q rfl rfl (q_move rfl) ?_  -- simplex.go:99
  refine qi_q rfl rfl (q_move rfl) ?_  -- simplex.go:99
  refine qi_q rfl rfl (q_call ent143 rfl rfl (fun w' hw => hat hw b i b0 b1 i0 i1)) ?_  -- simplex.go:99
  refine qi_q rfl rfl (q_pure ent93 rfl (simplex_times (p60_fits (atI_bd hb a0 a1 k0 k1)) (p60_fits (atI_bd hb b0 b1 i0 i1)) (p120_fits m2))) ?_  -- simplex.go:99
  refine qi_q rfl rfl (q_pure ent104 rfl (simplex_less (p120_fits m1) (p120_fits m2) (fits_big (bd_big m3 (by decide))))) ?_  -- simplex.go:99
  refine qi_nil ?_
  refine tail_one 19 (by kernel_rfl) rfl rfl (s_storeW 9 siz31 rfl rfl rfl rfl rfl rfl ⟨(subl_cons rfl (sub_without _ _)), ?_⟩)  -- simplex.go:99
  refine tail_nil (by kernel_rfl) ?_
  refine cw_ret ?_
  exact ret_pure rfl (rv_agg 9 agg31 rfl rfl rfl rv_nil) rfl

def minorI (n : Int) (G : Int → Int → Int) (wi : Int) : Int :=
  if n = 0 then 1 else if n = 1 then atI n G wi 0 0 else if n = 2 then twoI n G wi 0 1 0 1
  else atI n G wi 0 0 * twoI n G wi 1 2 1 2 - atI n G wi 0 1 * twoI n G wi 1 2 0 2 + atI n G wi 0 2 * twoI n G wi 1 2 0 1
theorem p180_fits {x : Int} (h : -(P60 * (2 * (P60 * P60))) ≤ x ∧ x ≤ P60 * (2 * (P60 * P60))) : Fits x := fits_big (bd_big h (by decide))
theorem minorI_3 {n wi : Int} {G : Int → Int → Int} (h0 : ¬ n = 0) (h1 : ¬ n = 1) (h2 : ¬ n = 2) : minorI n G wi = atI n G wi 0 0 * twoI n G wi 1 2 1 2 - atI n G wi 0 1 * twoI n G wi 1 2 0 2 + atI n G wi 0 2 * twoI n G wi 1 2 0 1 := by
  unfold minorI; rw [if_neg h0, if_neg h1, if_neg h2]
theorem simplex_minor {w : World} {n wi : Int} {gv : Value} {G : Int → Int → Int} (n0 : 0 ≤ n) (n3 : n ≤ 3) (hg : GV w gv n G) (hb : GBd n G) :
    Calls Tryz.prog 103 #[.int .i64 n, gv, .int .i64 wi] w fun e w' => e = .returned (.agg (Wl (minorI n G wi)).toArray) ∧ Below w.heap.size w w' := by
  have hat : ∀ {L : HL} {b5 b4 b3 : Nat} {w' : World}, St w [] w' L → NP.look L 5 = some (b5, .cells [.int .i64 wi].toArray 3 (0, 0)) → NP.look L 4 = some (b4, .cells [gv].toArray 139 (0, 0)) → NP.look L 3 = some (b3, .cells [.int .i64 n].toArray 3 (0, 0)) →
      ∀ i k, 0 ≤ i → i < n → 0 ≤ k → k ≤ n → Calls Tryz.prog 143 (#[] ++ [Value.int .i64 i, .int .i64 k].toArray ++ #[.pointer (some ⟨b5, 0, none⟩), .pointer (some ⟨b4, 0, none⟩), .pointer (some ⟨b3, 0, none⟩)]) w' fun e w2 => e = .returned (.agg (Wl (atI n G wi i k)).toArray) ∧ Below w'.heap.size w' w2 := by
    intro L b5 b4 b3 w' hw h5 h4 h3 i k i0 i1 k0 k1
    simpa using minor_at ⟨(hw.known _ _ _ h5).1, (hw.known _ _ _ h4).1, (hw.known _ _ _ h3).1, hg.below hw.below⟩ i0 i1 k0 k1
  have htwo : ∀ {L : HL} {b7 b5 b4 b3 : Nat} {w' : World}, St w [] w' L → NP.look L 7 = some (b7, .cells [atV b5 b4 b3].toArray 139 (0, 0)) → NP.look L 5 = some (b5, .cells [.int .i64 wi].toArray 3 (0, 0)) → NP.look L 4 = some (b4, .cells [gv].toArray 139 (0, 0)) → NP.look L 3 = some (b3, .cells [.int .i64 n].toArray 3 (0, 0)) →
      ∀ a b i k, 0 ≤ a → a < n → 0 ≤ b → b < n → 0 ≤ i → i ≤ n → 0 ≤ k → k ≤ n → Calls Tryz.prog 144 (#[] ++ [Value.int .i64 a, .int .i64 b, .int .i64 i, .int .i64 k].toArray ++ #[.pointer (some ⟨b7, 0, none⟩)]) w' fun e w2 => e = .returned (.agg (Wl (twoI n G wi a b i k)).toArray) ∧ Below w'.heap.size w' w2 := by
    intro L b7 b5 b4 b3 w' hw h7 h5 h4 h3 a b i k a0 a1 b0 b1 i0 i1 k0 k1
    simpa using minor_two (hw.known _ _ _ h7).1 ⟨(hw.known _ _ _ h5).1, (hw.known _ _ _ h4).1, (hw.known _ _ _ h3).1, hg.below hw.below⟩ hb a0 a1 b0 b1 i0 i1 k0 k1
  have he := hg
  obtain ⟨f, cs, rfl, -, -⟩ := he
  refine calls_of Tryz.func103 rfl Tryz.ntmps103 rfl (St.start w) (args := [.int .i64 n, .func (.func f) #[] cs, .int .i64 wi]) ?_
  refine cw_sr ?_
  refine steps_s (s_box1 3 rfl rfl rfl fun b3 => ?_)  -- simplex.go:92
  refine steps_s (s_box1 4 rfl rfl rfl fun b4 => ?_)  -- simplex.go:92
  refine steps_s (s_box1 5 rfl rfl rfl fun b5 => ?_)  -- simplex.go:92
  refine steps_s (s_allocA 6 rfl zer31 fun b6 => ?_)  -- simplex.go:92
  refine steps_nil ?_
  refine cw_sr ?_
  refine steps_q rfl (q_func rfl rfl) ?_  -- simplex.go:93
  refine steps_s (s_alloc1 7 rfl zer139 rfl fun b7 => ?_)  -- simplex.go:93
  refine steps_s (s_storeV 7 siz139 rfl rfl rfl rfl rfl ?_)  -- simplex.go:93
  refine steps_nil ?_
  refine cw_sr ?_
  refine steps_q rfl (q_func rfl rfl) ?_  -- simplex.go:99
  refine steps_q rfl (q_assign rfl) ?_  -- simplex.go:99
  refine steps_nil ?_
  refine cw_seq ?_
  refine cw_sr ?_
  refine steps_q rfl (q_load1 3 one3 rfl rfl rfl) ?_  -- simplex.go:100
  refine steps_nil ?_
  refine cw_block ?_
  refine cw_sr ?_
  refine steps_q rfl (q_bin rfl rfl rfl) ?_  -- simplex.go:101
  refine steps_q rfl (q_assign rfl) ?_  -- simplex.go:101
  refine steps_nil ?_
  refine cw_cond _ rfl (fun hc1 => ?_) (fun hc1 => ?_)
  · -- yes 1
    have hn : n = 0 := by simpa using hc1
    rw [show minorI n G wi = 1 from if_pos hn]
    refine cw_sr ?_
    refine steps_q rfl (q_pure ent22 rfl (wide_Of 1 (by omega))) ?_  -- simplex.go:102
    refine steps_s (s_storeW 6 siz31 rfl rfl rfl rfl rfl rfl ?_)  -- simplex.go:102
    refine steps_nil ?_
    refine cw_ret ?_
    exact ret_pure rfl (rv_agg 6 agg31 rfl rfl rfl rv_nil) rfl
  · -- no 1
    have hn0 : ¬ n = 0 := by simpa using hc1
    refine cw_sr ?_
    refine steps_q rfl (q_bin rfl rfl rfl) ?_  -- simplex.go:103
    refine steps_q rfl (q_assign rfl) ?_  -- simplex.go:103
    refine steps_nil ?_
    refine cw_cond _ rfl (fun hc2 => ?_) (fun hc2 => ?_)
    · -- yes 2
      have hn : n = 1 := by simpa using hc2
      rw [show minorI n G wi = atI n G wi 0 0 by unfold minorI; rw [if_neg hn0, if_pos hn]]
      refine cw_sr ?_
      refine steps_q rfl (q_load1 7 one139 rfl rfl rfl) ?_  -- simplex.go:104
      refine steps_q rfl (q_call ent143 rfl rfl (fun w' hw => hat hw rfl rfl rfl 0 0 (by omega) (by omega) (by omega) (by omega))) ?_  -- simplex.go:104
      refine steps_s (s_storeW 6 siz31 rfl rfl rfl rfl rfl rfl ?_)  -- simplex.go:104
      refine steps_nil ?_
      refine cw_ret ?_
      exact ret_pure rfl (rv_agg 6 agg31 rfl rfl rfl rv_nil) rfl
    · -- no 2
      have hn1 : ¬ n = 1 := by simpa using hc2
      refine cw_sr ?_
      refine steps_q rfl (q_bin rfl rfl rfl) ?_  -- simplex.go:105
      refine steps_q rfl (q_assign rfl) ?_  -- simplex.go:105
      refine steps_nil ?_
      refine cw_cond _ rfl (fun hc3 => ?_) (fun hc3 => ?_)
      · -- yes 3
        have hn : n = 2 := by simpa using hc3
        rw [show minorI n G wi = twoI n G wi 0 1 0 1 by unfold minorI; rw [if_neg hn0, if_neg hn1, if_pos hn]]
        refine cw_sr ?_
        refine steps_q rfl (q_move rfl) ?_  -- simplex.go:106
        refine steps_q rfl (q_call ent144 rfl rfl (fun w' hw => htwo hw rfl rfl rfl rfl 0 1 0 1 (by omega) (by omega) (by omega) (by omega) (by omega) (by omega) (by omega) (by omega))) ?_  -- simplex.go:106
        refine steps_s (s_storeW 6 siz31 rfl rfl rfl rfl rfl rfl ?_)  -- simplex.go:106
        refine steps_nil ?_
        refine cw_ret ?_
        exact ret_pure rfl (rv_agg 6 agg31 rfl rfl rfl rv_nil) rfl
      · -- no 3
        have hn2 : ¬ n = 2 := by simpa using hc3
        have m3 : minorI n G wi = atI n G wi 0 0 * twoI n G wi 1 2 1 2 - atI n G wi 0 1 * twoI n G wi 1 2 0 2 + atI n G wi 0 2 * twoI n G wi 1 2 0 1 := minorI_3 hn0 hn1 hn2
        rw [m3]
        have a0 := atI_bd (wi := wi) hb (i := 0) (k := 0) (by omega) (by omega) (by omega) (by omega)
        have a1 := atI_bd (wi := wi) hb (i := 0) (k := 1) (by omega) (by omega) (by omega) (by omega)
        have a2 := atI_bd (wi := wi) hb (i := 0) (k := 2) (by omega) (by omega) (by omega) (by omega)
        have t0 := twoI_bd (wi := wi) hb (a := 1) (b := 2) (i := 1) (k := 2) (by omega) (by omega) (by omega) (by omega) (by omega) (by omega) (by omega) (by omega)
        have t1 := twoI_bd (wi := wi) hb (a := 1) (b := 2) (i := 0) (k := 2) (by omega) (by omega) (by omega) (by omega) (by omega) (by omega) (by omega) (by omega)
        have t2 := twoI_bd (wi := wi) hb (a := 1) (b := 2) (i := 0) (k := 1) (by omega) (by omega) (by omega) (by omega) (by omega) (by omega) (by omega) (by omega)
        have p0 := mul_bd a0 t0
        have p1 := mul_bd a1 t1
        have p2 := mul_bd a2 t2
        have f2 : ∀ {x : Int}, -(2 * (P60 * P60)) ≤ x ∧ x ≤ 2 * (P60 * P60) → Fits x := fun h => fits_big (bd_big h (by decide))
        have fd : Fits (atI n G wi 0 0 * twoI n G wi 1 2 1 2 - atI n G wi 0 1 * twoI n G wi 1 2 0 2) := fits_big (bd_big (k := 2 * (P60 * (2 * (P60 * P60)))) (by omega) (by decide))
        have fs : Fits (atI n G wi 0 0 * twoI n G wi 1 2 1 2 - atI n G wi 0 1 * twoI n G wi 1 2 0 2 + atI n G wi 0 2 * twoI n G wi 1 2 0 1) := fits_big (bd_big (k := 3 * (P60 * (2 * (P60 * P60)))) (by omega) (by decide))
        refine cw_skip ?_
        refine at_then ?_
        refine cw_sd mixed [0, 1, 2, 3, 4, 5, 6, 7, 8, 9, 10, 11, 12, 13, 14, 15, 16] 1 (without _ [6]) (by kernel_rfl) (sub_without _ _) ?_
        refine qi_q rfl rfl (q_load1 7 one139 rfl rfl rfl) ?_  -- simplex.go:108
        refine qi_q rfl rfl (q_call ent143 rfl rfl (fun w' hw => hat hw rfl rfl rfl 0 0 (by omega) (by omega) (by omega) (by omega))) ?_  -- simplex.go:108
        refine qi_q rfl rfl (q_move rfl) ?_  -- simplex.go:108
        refine qi_q rfl rfl (q_call ent144 rfl rfl (fun w' hw => htwo hw rfl rfl rfl rfl 1 2 1 2 (by omega) (by omega) (by omega) (by omega) (by omega) (by omega) (by omega) (by omega))) ?_  -- simplex.go:108
        refine qi_q rfl rfl (q_pure ent93 rfl (simplex_times (p60_fits a0) (f2 t0) (p180_fits p0))) ?_  -- simplex.go:108
        refine qi_q rfl rfl (q_load1 7 one139 rfl rfl rfl) ?_  -- simplex.go:108
        refine qi_q rfl rfl (q_call ent143 rfl rfl (fun w' hw => hat hw rfl rfl rfl 0 1 (by omega) (by omega) (by omega) (by omega))) ?_  -- simplex.go:108
        refine qi_q rfl rfl (q_move rfl) ?_  -- simplex.go:108
        refine qi_q rfl rfl (q_call ent144 rfl rfl (fun w' hw => htwo hw rfl rfl rfl rfl 1 2 0 2 (by omega) (by omega) (by omega) (by omega) (by omega) (by omega) (by omega) (by omega))) ?_  -- simplex.go:108
        refine qi_q rfl rfl (q_pure ent93 rfl (simplex_times (p60_fits a1) (f2 t1) (p180_fits p1))) ?_  -- simplex.go:108
        refine qi_q rfl rfl (q_pure ent104 rfl (simplex_less (p180_fits p0) (p180_fits p1) fd)) ?_  -- simplex.go:108
        refine qi_q rfl rfl (q_load1 7 one139 rfl rfl rfl) ?_  -- simplex.go:108
        refine qi_q rfl rfl (q_call ent143 rfl rfl (fun w' hw => hat hw rfl rfl rfl 0 2 (by omega) (by omega) (by omega) (by omega))) ?_  -- simplex.go:108
        refine qi_q rfl rfl (q_move rfl) ?_  -- simplex.go:108
        refine qi_q rfl rfl (q_call ent144 rfl rfl (fun w' hw => htwo hw rfl rfl rfl rfl 1 2 0 1 (by omega) (by omega) (by omega) (by omega) (by omega) (by omega) (by omega) (by omega))) ?_  -- simplex.go:108
        refine qi_q rfl rfl (q_pure ent93 rfl (simplex_times (p60_fits a2) (f2 t2) (p180_fits p2))) ?_  -- simplex.go:108
        refine qi_q rfl rfl (q_pure ent105 rfl (simplex_plus fd (p180_fits p2) fs)) ?_  -- simplex.go:108
        refine qi_nil ?_
        refine tail_one 17 (by kernel_rfl) rfl rfl (s_storeW 6 siz31 rfl rfl rfl rfl rfl rfl ⟨(subl_cons rfl (sub_without _ _)), ?_⟩)  -- simplex.go:108
        refine tail_nil (by kernel_rfl) ?_
        refine cw_ret ?_
        exact ret_pure rfl (rv_agg 6 agg31 rfl rfl rfl rv_nil) rfl
end Go.Proofs.YtomdahjakkifbaaGreat
