/-
  The walks of package grid: Dot, Cross, Det; orient.less, simplex.from. Slices that are told to a function: they lie in memory that is old there. The walks of package orient: fine. The walks of package orient: raises. The walks of package orient: Spread, Rank. The walks of package simplex: square, Past. Two fractions, by their whole parts and what is left. The walks of package simplex: Cmp.
-/
import Derived.Test.YtomdahjakkifbaaPc

/-
  The walks of package grid: Dot, Cross, Det; orient.less, simplex.from.
-/
namespace Go.Proofs.Ytomdahjakkifbaa
open Go Go.NP Go.RowKit Go.Proofs
set_option maxRecDepth 100000

theorem mul_bd {a b A C : Int} (ha : -A ≤ a ∧ a ≤ A) (hb : -C ≤ b ∧ b ≤ C) : -(A * C) ≤ a * b ∧ a * b ≤ A * C := by
  have h1 : 0 ≤ (A - a) * (C - b) := Int.mul_nonneg (by omega) (by omega)
  have h2 : 0 ≤ (A + a) * (C + b) := Int.mul_nonneg (by omega) (by omega)
  have h3 : 0 ≤ (A - a) * (C + b) := Int.mul_nonneg (by omega) (by omega)
  have h4 : 0 ≤ (A + a) * (C - b) := Int.mul_nonneg (by omega) (by omega)
  constructor
  · have : (A - a) * (C + b) + (A + a) * (C - b) = 2 * (A * C) - 2 * (a * b) := by grind
    have : (A - a) * (C - b) + (A + a) * (C + b) = 2 * (A * C) + 2 * (a * b) := by grind
    omega
  · have : (A - a) * (C + b) + (A + a) * (C - b) = 2 * (A * C) - 2 * (a * b) := by grind
    omega
def Sp.In (k : Int) (s : Sp) : Prop := (-k ≤ s.x ∧ s.x ≤ k) ∧ (-k ≤ s.y ∧ s.y ≤ k) ∧ (-k ≤ s.z ∧ s.z ≤ k)
theorem Sp.In.mono {j k : Int} {p : Sp} (h : p.In j) (hk : j ≤ k) : p.In k := by unfold Sp.In at *; omega
theorem Pt.In.sp {k : Int} {p : Pt} (h : p.In k) : p.sp.In k := h
/-- 2^500. -/
def Big : Int := 3273390607896141870013189696827599152216642046043064789483291368096133796404674554883270092325904157150886684127560071009217256545885393053328527589376
theorem fits_big {n : Int} (h : -Big ≤ n ∧ n ≤ Big) : Fits n := by unfold Fits; rw [M512_eq]; unfold Big at h; omega
theorem Sp.In.fits {k : Int} {p : Sp} (h : p.In k) (hk : k ≤ Big) : p.fits := by
  obtain ⟨a, b, c⟩ := h
  exact ⟨fits_big (by omega), fits_big (by omega), fits_big (by omega)⟩
theorem alFits {n : Sp} {p : Pt} {K k : Int} (hn : n.In K) (hp : p.In k) (hK : K ≤ Big) (hk : k ≤ 9223372036854775807) (h3 : 3 * (K * k) ≤ Big) : AlFits n p := by
  obtain ⟨a, b, c⟩ := hn
  obtain ⟨d, e, f⟩ := hp
  have h1 := mul_bd a d
  have h2 := mul_bd b e
  have h4 := mul_bd c f
  refine ⟨⟨fits_big (by omega), fits_big (by omega), fits_big (by omega)⟩, by unfold Pt.In; omega, ?_, ?_⟩
  · intro i hi
    have : i = 0 ∨ i = 1 ∨ i = 2 := by omega
    rcases this with rfl | rfl | rfl <;> simp only [term] <;> exact fits_big (by omega)
  · intro i hi
    have : i = 0 ∨ i = 1 ∨ i = 2 ∨ i = 3 := by omega
    rcases this with rfl | rfl | rfl | rfl <;> simp only [part, term] <;> exact fits_big (by omega)
theorem dotS_bd {n : Sp} {p : Pt} {K k : Int} (hn : n.In K) (hp : p.In k) : -(3 * (K * k)) ≤ dotS n p ∧ dotS n p ≤ 3 * (K * k) := by
  obtain ⟨a, b, c⟩ := hn
  obtain ⟨d, e, f⟩ := hp
  have h1 := mul_bd a d
  have h2 := mul_bd b e
  have h4 := mul_bd c f
  unfold dotS; omega
def crossP (a b : Pt) : Sp := ⟨a.y * b.z - a.z * b.y, a.z * b.x - a.x * b.z, a.x * b.y - a.y * b.x⟩
theorem cross_bd {a b : Pt} {j k : Int} (ha : a.In j) (hb : b.In k) : (crossP a b).In (2 * (j * k)) := by
  obtain ⟨a1, a2, a3⟩ := ha
  obtain ⟨b1, b2, b3⟩ := hb
  have h1 := mul_bd a2 b3
  have h2 := mul_bd a3 b2
  have h3 := mul_bd a3 b1
  have h4 := mul_bd a1 b3
  have h5 := mul_bd a1 b2
  have h6 := mul_bd a2 b1
  unfold Sp.In crossP
  dsimp only
  omega
def subP (a b : Pt) : Pt := ⟨a.x - b.x, a.y - b.y, a.z - b.z⟩
theorem sub_bd {a b : Pt} {j k : Int} (ha : a.In j) (hb : b.In k) : (subP a b).In (j + k) := by
  unfold Pt.In subP at *; dsimp only; omega
/-- What differences of points keep to: 2^40. -/
def P40 : Int := 1099511627776
theorem in40 {p : Pt} (h : p.In P40) : p.In 9223372036854775807 := h.mono (by decide)
theorem bldP (p : Pt) : ∀ w, (Instr.build 38 [(0, Value.int .i64 p.x), (1, Value.int .i64 p.y), (2, Value.int .i64 p.z)].toArray).run Try.prog w = .ok (.agg p.l.toArray) w := fun w => by kernel_rfl

theorem grid_Dot {a b : Pt} (ha : a.In P40) (hb : b.In P40) : PureF Try.prog 68 [.agg a.l.toArray, .agg b.l.toArray] (.agg (Wl (dotS a.sp b)).toArray) := by
  have hA := alFits (n := a.sp) (p := b) ha hb (by decide) (by decide) (by decide)
  refine pure_of Try.func68 rfl Try.ntmps68 rfl fun w => ?_
  refine cw_sr ?_
  refine steps_s (s_boxA 2 rfl rfl fun b2 => ?_)  -- grid.go:64
  refine steps_s (s_boxA 3 rfl rfl fun b3 => ?_)  -- grid.go:64
  refine steps_s (s_allocA 4 rfl zer26 fun b4 => ?_)  -- grid.go:64
  refine steps_nil ?_
  refine cw_sd mixed [0, 1, 2, 3, 4, 5, 6] 3 (without _ [5]) (by kernel_rfl) (sub_without _ _) ?_
  refine qi_q rfl rfl (q_loadW 2 agg38 rfl rfl rfl) ?_  -- grid.go:65
  refine qi_q rfl rfl (q_pure ent34 rfl (grid_of (in40 ha))) ?_  -- grid.go:65
  refine qi_q rfl rfl (q_loadW 3 agg38 rfl rfl rfl) ?_  -- grid.go:65
  refine qi_q rfl rfl (q_pure ent20 rfl (grid_Along hA)) ?_  -- grid.go:65
  refine qi_q rfl rfl (q_move rfl) ?_  -- grid.go:65
  refine qi_q rfl rfl (q_extract rfl rfl) ?_  -- grid.go:65
  refine qi_q rfl rfl (q_extract rfl rfl) ?_  -- grid.go:65
  refine qi_nil ?_
  refine tail_one 7 (by kernel_rfl) rfl rfl (s_allocA 5 rfl zer26 fun b5 => ⟨(subl_cons rfl (sub_without _ _)), ?_⟩)  -- grid.go:65
  refine tail_one 8 (by kernel_rfl) rfl rfl (s_storeW 5 siz26 rfl rfl rfl rfl rfl rfl ⟨(subl_cons rfl (subl_cons rfl (sub_without _ _))), ?_⟩)  -- grid.go:65
  refine tail_one 9 (by kernel_rfl) rfl rfl ((q_assign rfl).step rfl (by decide) ⟨(subl_cons rfl (subl_cons rfl (sub_without _ _))), ?_⟩)  -- grid.go:65
  refine tail_nil (by kernel_rfl) ?_
  refine cw_sr ?_
  refine steps_q rfl (q_loadW 5 agg26 rfl rfl rfl) ?_  -- grid.go:66
  refine steps_s (s_storeW 4 siz26 rfl rfl rfl rfl rfl rfl ?_)  -- grid.go:66
  refine steps_nil ?_
  refine cw_ret ?_
  exact ret_pure rfl (rv_agg 4 agg26 rfl rfl rfl rv_nil) rfl
theorem grid_Cross {a b : Pt} (ha : a.In P40) (hb : b.In P40) : PureF Try.prog 61 [.agg a.l.toArray, .agg b.l.toArray] (.agg (crossP a b).l.toArray) := by
  obtain ⟨a1, a2, a3⟩ := ha
  obtain ⟨e1, e2, e3⟩ := hb
  have f : ∀ {x : Int}, -P40 ≤ x ∧ x ≤ P40 → Fits x := fun h => fits_big (by unfold P40 at h; unfold Big; omega)
  have m : ∀ {x y : Int}, -P40 ≤ x ∧ x ≤ P40 → -P40 ≤ y ∧ y ≤ P40 → Fits (x * y) := fun h k => fits_big (by have := mul_bd h k; unfold P40 at this; unfold Big; omega)
  have s : ∀ {x y u v : Int}, -P40 ≤ x ∧ x ≤ P40 → -P40 ≤ y ∧ y ≤ P40 → -P40 ≤ u ∧ u ≤ P40 → -P40 ≤ v ∧ v ≤ P40 → Fits (x * y - u * v) := fun h k i j => fits_big (by have := mul_bd h k; have := mul_bd i j; unfold P40 at *; unfold Big; omega)
  refine pure_of Try.func61 rfl Try.ntmps61 rfl fun w => ?_
  refine cw_sr ?_
  refine steps_s (s_boxA 2 rfl rfl fun b2 => ?_)  -- grid.go:70
  refine steps_s (s_boxA 3 rfl rfl fun b3 => ?_)  -- grid.go:70
  refine steps_s (s_allocA 4 rfl zer28 fun b4 => ?_)  -- grid.go:70
  refine steps_nil ?_
  refine cw_sd mixed [0, 1, 2, 3] 4 (without _ [5, 6]) (by kernel_rfl) (sub_without _ _) ?_
  refine qi_q rfl rfl (q_loadW 2 agg38 rfl rfl rfl) ?_  -- grid.go:71
  refine qi_q rfl rfl (q_pure ent34 rfl (grid_of (in40 ⟨a1, a2, a3⟩))) ?_  -- grid.go:71
  refine qi_q rfl rfl (q_loadW 3 agg38 rfl rfl rfl) ?_  -- grid.go:71
  refine qi_q rfl rfl (q_pure ent34 rfl (grid_of (in40 ⟨e1, e2, e3⟩))) ?_  -- grid.go:71
  refine qi_nil ?_
  refine tail_alloc2 4 5 (by kernel_rfl) rfl rfl zer28 rfl zer28 rfl (sub_without _ _) rfl rfl (fun h => CW.weaken h) fun b5 b6 => ?_
  refine tail_one 6 (by kernel_rfl) rfl rfl (s_storeW 5 siz28 rfl rfl rfl rfl rfl rfl ⟨(subl_cons rfl (subl_cons rfl (subl_cons rfl (sub_without _ _)))), ?_⟩)  -- grid.go:71
  refine tail_one 7 (by kernel_rfl) rfl rfl (s_storeW 6 siz28 rfl rfl rfl rfl rfl rfl ⟨(subl_cons rfl (subl_cons rfl (subl_cons rfl (subl_cons rfl (sub_without _ _))))), ?_⟩)  -- grid.go:71
  refine tail_nil (by kernel_rfl) ?_
  refine cw_sd mixed [0, 1, 2, 3, 4, 5, 6, 7, 8, 9, 10, 11, 12, 13, 14, 15, 16, 17, 18, 19, 20, 21, 22, 23, 24, 25, 26, 27, 28, 29, 30, 31, 32, 33] 1 (without _ [4]) (by kernel_rfl) (sub_without _ _) ?_
  refine qi_q rfl rfl (q_field fld28_1 rfl) ?_  -- grid.go:72
  refine qi_q rfl rfl (q_loadA 5 agg26 rfl rfl (sp1 a.sp)) ?_  -- grid.go:72
  refine qi_q rfl rfl (q_field fld28_2 rfl) ?_  -- grid.go:72
  refine qi_q rfl rfl (q_loadA 6 agg26 rfl rfl (sp2 b.sp)) ?_  -- grid.go:72
  refine qi_q rfl rfl (q_pure ent80 rfl (grid_times (f a2) (f e3) (m a2 e3))) ?_  -- grid.go:72
  refine qi_q rfl rfl (q_field fld28_2 rfl) ?_  -- grid.go:72
  refine qi_q rfl rfl (q_loadA 5 agg26 rfl rfl (sp2 a.sp)) ?_  -- grid.go:72
  refine qi_q rfl rfl (q_field fld28_1 rfl) ?_  -- grid.go:72
  refine qi_q rfl rfl (q_loadA 6 agg26 rfl rfl (sp1 b.sp)) ?_  -- grid.go:72
  refine qi_q rfl rfl (q_pure ent80 rfl (grid_times (f a3) (f e2) (m a3 e2))) ?_  -- grid.go:72
  refine qi_q rfl rfl (q_pure ent79 rfl (grid_less (m a2 e3) (m a3 e2) (s a2 e3 a3 e2))) ?_  -- grid.go:72
  refine qi_q rfl rfl (q_field fld28_2 rfl) ?_  -- grid.go:72
  refine qi_q rfl rfl (q_loadA 5 agg26 rfl rfl (sp2 a.sp)) ?_  -- grid.go:72
  refine qi_q rfl rfl (q_field fld28_0 rfl) ?_  -- grid.go:72
  refine qi_q rfl rfl (q_loadA 6 agg26 rfl rfl (sp0 b.sp)) ?_  -- grid.go:72
  refine qi_q rfl rfl (q_pure ent80 rfl (grid_times (f a3) (f e1) (m a3 e1))) ?_  -- grid.go:72
  refine qi_q rfl rfl (q_field fld28_0 rfl) ?_  -- grid.go:72
  refine qi_q rfl rfl (q_loadA 5 agg26 rfl rfl (sp0 a.sp)) ?_  -- grid.go:72
  refine qi_q rfl rfl (q_field fld28_2 rfl) ?_  -- grid.go:72
  refine qi_q rfl rfl (q_loadA 6 agg26 rfl rfl (sp2 b.sp)) ?_  -- grid.go:72
  refine qi_q rfl rfl (q_pure ent80 rfl (grid_times (f a1) (f e3) (m a1 e3))) ?_  -- grid.go:72
  refine qi_q rfl rfl (q_pure ent79 rfl (grid_less (m a3 e1) (m a1 e3) (s a3 e1 a1 e3))) ?_  -- grid.go:72
  refine qi_q rfl rfl (q_field fld28_0 rfl) ?_  -- grid.go:72
  refine qi_q rfl rfl (q_loadA 5 agg26 rfl rfl (sp0 a.sp)) ?_  -- grid.go:72
  refine qi_q rfl rfl (q_field fld28_1 rfl) ?_  -- grid.go:72
  refine qi_q rfl rfl (q_loadA 6 agg26 rfl rfl (sp1 b.sp)) ?_  -- grid.go:72
  refine qi_q rfl rfl (q_pure ent80 rfl (grid_times (f a1) (f e2) (m a1 e2))) ?_  -- grid.go:72
  refine qi_q rfl rfl (q_field fld28_1 rfl) ?_  -- grid.go:72
  refine qi_q rfl rfl (q_loadA 5 agg26 rfl rfl (sp1 a.sp)) ?_  -- grid.go:72
  refine qi_q rfl rfl (q_field fld28_0 rfl) ?_  -- grid.go:72
  refine qi_q rfl rfl (q_loadA 6 agg26 rfl rfl (sp0 b.sp)) ?_  -- grid.go:72
  refine qi_q rfl rfl (q_pure ent80 rfl (grid_times (f a2) (f e1) (m a2 e1))) ?_  -- grid.go:72
  refine qi_q rfl rfl (q_pure ent79 rfl (grid_less (m a1 e2) (m a2 e1) (s a1 e2 a2 e1))) ?_  -- grid.go:72
  refine qi_q rfl rfl (q_build (vs := [(0, _), (1, _), (2, _)]) rfl rfl (bldS (crossP a b))) ?_  -- grid.go:72
  refine qi_nil ?_
  refine tail_one 34 (by kernel_rfl) rfl rfl (s_storeW 4 siz28 rfl rfl rfl rfl rfl rfl ⟨(subl_cons rfl (sub_without _ _)), ?_⟩)  -- grid.go:72
  refine tail_nil (by kernel_rfl) ?_
  refine cw_ret ?_
  exact ret_pure rfl (rv_agg 4 agg28 rfl rfl rfl rv_nil) rfl
theorem grid_Det {a b c : Pt} (ha : a.In P40) (hb : b.In P40) (hc : c.In P40) : PureF Try.prog 63 [.agg a.l.toArray, .agg b.l.toArray, .agg c.l.toArray] (.agg (Wl (dotS (crossP b c) a)).toArray) := by
  have hA := alFits (cross_bd hb hc) ha (by decide) (by decide) (by decide)
  refine pure_of Try.func63 rfl Try.ntmps63 rfl fun w => ?_
  refine cw_sr ?_
  refine steps_s (s_boxA 3 rfl rfl fun b3 => ?_)  -- grid.go:76
  refine steps_s (s_boxA 4 rfl rfl fun b4 => ?_)  -- grid.go:76
  refine steps_s (s_boxA 5 rfl rfl fun b5 => ?_)  -- grid.go:76
  refine steps_s (s_allocA 6 rfl zer26 fun b6 => ?_)  -- grid.go:76
  refine steps_nil ?_
  refine cw_sd mixed [0, 1, 2, 3, 4, 5, 6, 7] 3 (without _ [7]) (by kernel_rfl) (sub_without _ _) ?_
  refine qi_q rfl rfl (q_loadW 4 agg38 rfl rfl rfl) ?_  -- grid.go:77
  refine qi_q rfl rfl (q_loadW 5 agg38 rfl rfl rfl) ?_  -- grid.go:77
  refine qi_q rfl rfl (q_pure ent61 rfl (grid_Cross hb hc)) ?_  -- grid.go:77
  refine qi_q rfl rfl (q_loadW 3 agg38 rfl rfl rfl) ?_  -- grid.go:77
  refine qi_q rfl rfl (q_pure ent20 rfl (grid_Along hA)) ?_  -- grid.go:77
  refine qi_q rfl rfl (q_move rfl) ?_  -- grid.go:77
  refine qi_q rfl rfl (q_extract rfl rfl) ?_  -- grid.go:77
  refine qi_q rfl rfl (q_extract rfl rfl) ?_  -- grid.go:77
  refine qi_nil ?_
  refine tail_one 8 (by kernel_rfl) rfl rfl (s_allocA 7 rfl zer26 fun b7 => ⟨(subl_cons rfl (sub_without _ _)), ?_⟩)  -- grid.go:77
  refine tail_one 9 (by kernel_rfl) rfl rfl (s_storeW 7 siz26 rfl rfl rfl rfl rfl rfl ⟨(subl_cons rfl (subl_cons rfl (sub_without _ _))), ?_⟩)  -- grid.go:77
  refine tail_one 10 (by kernel_rfl) rfl rfl ((q_assign rfl).step rfl (by decide) ⟨(subl_cons rfl (subl_cons rfl (sub_without _ _))), ?_⟩)  -- grid.go:77
  refine tail_nil (by kernel_rfl) ?_
  refine cw_sr ?_
  refine steps_q rfl (q_loadW 7 agg26 rfl rfl rfl) ?_  -- grid.go:78
  refine steps_s (s_storeW 6 siz26 rfl rfl rfl rfl rfl rfl ?_)  -- grid.go:78
  refine steps_nil ?_
  refine cw_ret ?_
  exact ret_pure rfl (rv_agg 6 agg26 rfl rfl rfl rv_nil) rfl
theorem orient_less {a b : Pt} (ha : a.In P40) (hb : b.In P40) : PureF Try.prog 62 [.agg a.l.toArray, .agg b.l.toArray] (.agg (subP a b).l.toArray) := by
  obtain ⟨a1, a2, a3⟩ := ha
  obtain ⟨b1, b2, b3⟩ := hb
  unfold P40 at *
  refine pure_of Try.func62 rfl Try.ntmps62 rfl fun w => ?_
  refine cw_sr ?_
  refine steps_s (s_boxA 2 rfl rfl fun b2 => ?_)  -- orient.go:21
  refine steps_s (s_boxA 3 rfl rfl fun b3 => ?_)  -- orient.go:21
  refine steps_s (s_allocA 4 rfl zer38 fun b4 => ?_)  -- orient.go:21
  refine steps_nil ?_
  refine cw_sr ?_
  refine steps_q rfl (q_field fld38_0 rfl) ?_  -- orient.go:22
  refine steps_q rfl (q_load1 2 one2 rfl rfl rfl) ?_  -- orient.go:22
  refine steps_q rfl (q_field fld38_0 rfl) ?_  -- orient.go:22
  refine steps_q rfl (q_load1 3 one2 rfl rfl rfl) ?_  -- orient.go:22
  refine steps_q rfl (q_bin rfl rfl (sub64 (by omega) (by omega))) ?_  -- orient.go:22
  refine steps_q rfl (q_field fld38_1 rfl) ?_  -- orient.go:22
  refine steps_q rfl (q_load1 2 one2 rfl rfl rfl) ?_  -- orient.go:22
  refine steps_q rfl (q_field fld38_1 rfl) ?_  -- orient.go:22
  refine steps_q rfl (q_load1 3 one2 rfl rfl rfl) ?_  -- orient.go:22
  refine steps_q rfl (q_bin rfl rfl (sub64 (by omega) (by omega))) ?_  -- orient.go:22
  refine steps_q rfl (q_field fld38_2 rfl) ?_  -- orient.go:22
  refine steps_q rfl (q_load1 2 one2 rfl rfl rfl) ?_  -- orient.go:22
  refine steps_q rfl (q_field fld38_2 rfl) ?_  -- orient.go:22
  refine steps_q rfl (q_load1 3 one2 rfl rfl rfl) ?_  -- orient.go:22
  refine steps_q rfl (q_bin rfl rfl (sub64 (by omega) (by omega))) ?_  -- orient.go:22
  refine steps_q rfl (q_build (vs := [(0, _), (1, _), (2, _)]) rfl rfl (bldP (subP a b))) ?_  -- orient.go:22
  refine steps_s (s_storeW 4 siz38 rfl rfl rfl rfl rfl rfl ?_)  -- orient.go:22
  refine steps_nil ?_
  refine cw_ret ?_
  exact ret_pure rfl (rv_agg 4 agg38 rfl rfl rfl rv_nil) rfl
theorem simplex_from {a b : Pt} (ha : a.In P40) (hb : b.In P40) : PureF Try.prog 65 [.agg a.l.toArray, .agg b.l.toArray] (.agg (subP a b).l.toArray) := by
  obtain ⟨a1, a2, a3⟩ := ha
  obtain ⟨b1, b2, b3⟩ := hb
  unfold P40 at *
  refine pure_of Try.func65 rfl Try.ntmps65 rfl fun w => ?_
  refine cw_sr ?_
  refine steps_s (s_boxA 2 rfl rfl fun b2 => ?_)  -- simplex.go:31
  refine steps_s (s_boxA 3 rfl rfl fun b3 => ?_)  -- simplex.go:31
  refine steps_s (s_allocA 4 rfl zer38 fun b4 => ?_)  -- simplex.go:31
  refine steps_nil ?_
  refine cw_sr ?_
  refine steps_q rfl (q_field fld38_0 rfl) ?_  -- simplex.go:32
  refine steps_q rfl (q_load1 2 one2 rfl rfl rfl) ?_  -- simplex.go:32
  refine steps_q rfl (q_field fld38_0 rfl) ?_  -- simplex.go:32
  refine steps_q rfl (q_load1 3 one2 rfl rfl rfl) ?_  -- simplex.go:32
  refine steps_q rfl (q_bin rfl rfl (sub64 (by omega) (by omega))) ?_  -- simplex.go:32
  refine steps_q rfl (q_field fld38_1 rfl) ?_  -- simplex.go:32
  refine steps_q rfl (q_load1 2 one2 rfl rfl rfl) ?_  -- simplex.go:32
  refine steps_q rfl (q_field fld38_1 rfl) ?_  -- simplex.go:32
  refine steps_q rfl (q_load1 3 one2 rfl rfl rfl) ?_  -- simplex.go:32
  refine steps_q rfl (q_bin rfl rfl (sub64 (by omega) (by omega))) ?_  -- simplex.go:32
  refine steps_q rfl (q_field fld38_2 rfl) ?_  -- simplex.go:32
  refine steps_q rfl (q_load1 2 one2 rfl rfl rfl) ?_  -- simplex.go:32
  refine steps_q rfl (q_field fld38_2 rfl) ?_  -- simplex.go:32
  refine steps_q rfl (q_load1 3 one2 rfl rfl rfl) ?_  -- simplex.go:32
  refine steps_q rfl (q_bin rfl rfl (sub64 (by omega) (by omega))) ?_  -- simplex.go:32
  refine steps_q rfl (q_build (vs := [(0, _), (1, _), (2, _)]) rfl rfl (bldP (subP a b))) ?_  -- simplex.go:32
  refine steps_s (s_storeW 4 siz38 rfl rfl rfl rfl rfl rfl ?_)  -- simplex.go:32
  refine steps_nil ?_
  refine cw_ret ?_
  exact ret_pure rfl (rv_agg 4 agg38 rfl rfl rfl rv_nil) rfl
theorem simplex_times {a b : Int} (ha : Fits a) (hb : Fits b) (h : Fits (a * b)) : PureF Try.prog 22 [.agg (Wl a).toArray, .agg (Wl b).toArray] (.agg (Wl (a * b)).toArray) := by
  refine pure_of Try.func22 rfl Try.ntmps22 rfl fun w => ?_
  refine cw_sr ?_
  refine steps_s (s_boxA 2 rfl rfl fun b2 => ?_)  -- simplex.go:15
  refine steps_s (s_boxA 3 rfl rfl fun b3 => ?_)  -- simplex.go:15
  refine steps_s (s_allocA 4 rfl zer26 fun b4 => ?_)  -- simplex.go:15
  refine steps_nil ?_
  refine cw_sr ?_
  refine steps_q rfl (q_loadW 2 agg26 rfl rfl rfl) ?_  -- simplex.go:16
  refine steps_q rfl (q_loadW 3 agg26 rfl rfl rfl) ?_  -- simplex.go:16
  refine steps_q rfl (q_pure ent35 rfl (wide_Mul a b ha hb h)) ?_  -- simplex.go:16
  refine steps_q rfl (q_move rfl) ?_  -- simplex.go:16
  refine steps_q rfl (q_extract rfl rfl) ?_  -- simplex.go:16
  refine steps_q rfl (q_extract rfl rfl) ?_  -- simplex.go:16
  refine steps_s (s_allocA 5 rfl zer26 fun b5 => ?_)  -- simplex.go:16
  refine steps_s (s_storeW 5 siz26 rfl rfl rfl rfl rfl rfl ?_)  -- simplex.go:16
  refine steps_q rfl (q_assign rfl) ?_  -- simplex.go:16
  refine steps_nil ?_
  refine cw_sr ?_
  refine steps_q rfl (q_loadW 5 agg26 rfl rfl rfl) ?_  -- simplex.go:17
  refine steps_s (s_storeW 4 siz26 rfl rfl rfl rfl rfl rfl ?_)  -- simplex.go:17
  refine steps_nil ?_
  refine cw_ret ?_
  exact ret_pure rfl (rv_agg 4 agg26 rfl rfl rfl rv_nil) rfl
theorem simplex_less {a b : Int} (ha : Fits a) (hb : Fits b) (h : Fits (a - b)) : PureF Try.prog 70 [.agg (Wl a).toArray, .agg (Wl b).toArray] (.agg (Wl (a - b)).toArray) := by
  refine pure_of Try.func70 rfl Try.ntmps70 rfl fun w => ?_
  refine cw_sr ?_
  refine steps_s (s_boxA 2 rfl rfl fun b2 => ?_)  -- simplex.go:25
  refine steps_s (s_boxA 3 rfl rfl fun b3 => ?_)  -- simplex.go:25
  refine steps_s (s_allocA 4 rfl zer26 fun b4 => ?_)  -- simplex.go:25
  refine steps_nil ?_
  refine cw_sr ?_
  refine steps_q rfl (q_loadW 2 agg26 rfl rfl rfl) ?_  -- simplex.go:26
  refine steps_q rfl (q_loadW 3 agg26 rfl rfl rfl) ?_  -- simplex.go:26
  refine steps_q rfl (q_pure ent83 rfl (wide_Sub ha hb h)) ?_  -- simplex.go:26
  refine steps_q rfl (q_move rfl) ?_  -- simplex.go:26
  refine steps_q rfl (q_extract rfl rfl) ?_  -- simplex.go:26
  refine steps_q rfl (q_extract rfl rfl) ?_  -- simplex.go:26
  refine steps_s (s_allocA 5 rfl zer26 fun b5 => ?_)  -- simplex.go:26
  refine steps_s (s_storeW 5 siz26 rfl rfl rfl rfl rfl rfl ?_)  -- simplex.go:26
  refine steps_q rfl (q_assign rfl) ?_  -- simplex.go:26
  refine steps_nil ?_
  refine cw_sr ?_
  refine steps_q rfl (q_loadW 5 agg26 rfl rfl rfl) ?_  -- simplex.go:27
  refine steps_s (s_storeW 4 siz26 rfl rfl rfl rfl rfl rfl ?_)  -- simplex.go:27
  refine steps_nil ?_
  refine cw_ret ?_
  exact ret_pure rfl (rv_agg 4 agg26 rfl rfl rfl rv_nil) rfl
theorem simplex_plus {a b : Int} (ha : Fits a) (hb : Fits b) (h : Fits (a + b)) : PureF Try.prog 39 [.agg (Wl a).toArray, .agg (Wl b).toArray] (.agg (Wl (a + b)).toArray) := by
  refine pure_of Try.func39 rfl Try.ntmps39 rfl fun w => ?_
  refine cw_sr ?_
  refine steps_s (s_boxA 2 rfl rfl fun b2 => ?_)  -- simplex.go:20
  refine steps_s (s_boxA 3 rfl rfl fun b3 => ?_)  -- simplex.go:20
  refine steps_s (s_allocA 4 rfl zer26 fun b4 => ?_)  -- simplex.go:20
  refine steps_nil ?_
  refine cw_sr ?_
  refine steps_q rfl (q_loadW 2 agg26 rfl rfl rfl) ?_  -- simplex.go:21
  refine steps_q rfl (q_loadW 3 agg26 rfl rfl rfl) ?_  -- simplex.go:21
  refine steps_q rfl (q_pure ent36 rfl (wide_Add ha hb h)) ?_  -- simplex.go:21
  refine steps_q rfl (q_move rfl) ?_  -- simplex.go:21
  refine steps_q rfl (q_extract rfl rfl) ?_  -- simplex.go:21
  refine steps_q rfl (q_extract rfl rfl) ?_  -- simplex.go:21
  refine steps_s (s_allocA 5 rfl zer26 fun b5 => ?_)  -- simplex.go:21
  refine steps_s (s_storeW 5 siz26 rfl rfl rfl rfl rfl rfl ?_)  -- simplex.go:21
  refine steps_q rfl (q_assign rfl) ?_  -- simplex.go:21
  refine steps_nil ?_
  refine cw_sr ?_
  refine steps_q rfl (q_loadW 5 agg26 rfl rfl rfl) ?_  -- simplex.go:22
  refine steps_s (s_storeW 4 siz26 rfl rfl rfl rfl rfl rfl ?_)  -- simplex.go:22
  refine steps_nil ?_
  refine cw_ret ?_
  exact ret_pure rfl (rv_agg 4 agg26 rfl rfl rfl rv_nil) rfl
end Go.Proofs.Ytomdahjakkifbaa

/-
  Slices that are told to a function: they lie in memory that is old there.
-/
namespace Go.NP
open Go Go.RowKit

/-- v is a slice of these elements, each of s cells (in a row of whatever make). -/
def SlAt (w : World) (_e : TypeId) (s : Nat) (v : Value) (xs : List (List Value)) : Prop :=
  ∃ a c, v = .slice a xs.length c ∧ (xs = [] ∨ ∃ (b off : Nat) (l : List Value) (fz : TypeId × Nat × Nat), a = some ⟨b, off, none⟩ ∧ w.heap[b]? = some (.cells l.toArray fz.1 fz.2) ∧ ∀ k x, xs[k]? = some x → Part l (off + k * s) s x)
theorem SlAt.below {w w' : World} {e : TypeId} {s : Nat} {v : Value} {xs : List (List Value)} (h : SlAt w e s v xs) (hb : Below w.heap.size w w') : SlAt w' e s v xs := by
  obtain ⟨a, c, h1, h2⟩ := h
  refine ⟨a, c, h1, h2.imp_right fun ⟨b, off, l, fz, q1, q2, q3⟩ => ⟨b, off, l, fz, q1, ?_, q3⟩⟩
  rw [hb.block b (Array.getElem?_eq_some_iff.1 q2).1]; exact q2
theorem SlAt.nil (w : World) (e : TypeId) (s : Nat) (a : Option Addr) (c : Nat) : SlAt w e s (.slice a 0 c) [] := ⟨a, c, rfl, .inl rfl⟩
theorem SlAt.own {w0 w : World} {M : List Nat} {L : HL} {i : Nat} {e : TypeId} {s : Nat} {q : SV} {xs : List (List Value)} (h : St w0 M w L) (hl : SubL (q.l i e) L) (hk : q.ok s xs) : SlAt w e s (q.v xs.length) xs := by
  cases q with
  | none => simp only [SV.ok] at hk; subst hk; exact ⟨_, _, rfl, .inl rfl⟩
  | some q =>
    obtain ⟨g, cur, cap⟩ := q
    exact ⟨_, _, rfl, .inr ⟨g, 0, cur, (e, 0, 0), rfl, (h.known i g _ (hl i _ (by simp [look]))).1, fun k x hx => SV.part hk hx⟩⟩
/-- In a walk whose old memory holds it, nothing of which is turned. -/
theorem SlAt.st {w0 w : World} {L : HL} {e : TypeId} {s : Nat} {v : Value} {xs : List (List Value)} (h : SlAt w0 e s v xs) (hw : St w0 [] w L) : SlAt w e s v xs := h.below hw.below
end Go.NP

/-
  The walks of package orient: fine.
-/
namespace Go.Proofs.Ytomdahjakkifbaa
open Go Go.NP Go.RowKit Go.Proofs
set_option maxRecDepth 100000

/-- v is a slice of these points. -/
def PtsAt (w : World) (v : Value) (ps : List Pt) : Prop := SlAt w 38 3 v (ps.map Pt.l)
def okPts (ps : List Pt) : Prop := ∀ p ∈ ps, p.In 268435456
instance (ps : List Pt) : Decidable (okPts ps) := by unfold okPts; exact inferInstance
theorem errP_ne (p : Pt) : (errP p != 0) = !decide (p.In 268435456) := by unfold errP; split <;> simp [*]

theorem orient_fine {ps : List Pt} {v : Value} (w : World) (h : PtsAt w v ps) (hlen : ps.length ≤ 1000000) :
    Calls Try.prog 41 #[v] w fun e w' => e = .returned (.bool (decide (okPts ps))) ∧ Below w.heap.size w w' := by
  obtain ⟨a, c, rfl, hsl⟩ := h
  rw [List.length_map]
  refine calls_of Try.func41 rfl Try.ntmps41 rfl (St.start w) (args := [.slice a ps.length c]) ?_
  refine cw_sr ?_
  refine steps_q rfl (q_assign rfl) ?_  -- orient.go:11
  refine steps_nil ?_
  refine cw_seq ?_
  refine cw_sr ?_
  refine steps_q rfl (q_move rfl) ?_  -- orient.go:12
  refine steps_q rfl (q_lenSl Try.underlying22 rfl) ?_  -- orient.go:12
  refine steps_q rfl (q_move rfl) ?_  -- orient.go:12
  refine steps_nil ?_
  refine cw_block ?_
  -- LOOP 1 writes [4, 7, 8, 9, 10, 11, 12, 13, 14]  stores via [4]  reads [5, 6]
  refine cw_loop (S := Int) (fun s => [(5, .slice a ps.length c), (6, .int .i64 ps.length), (7, .int .i64 s)]) (fun _ => []) (fun s => 0 ≤ s ∧ s ≤ ps.length ∧ ∀ (k : Nat) (p : Pt), ps[k]? = some p → (k : Int) < s → p.In 268435456) (fun s => (ps.length - s).toNat) 0 ⟨by omega, by omega, fun k p _ hk => by omega⟩ (subs ⟨rfl, rfl, rfl, trivial⟩) (subs trivial) ?_
  intro i ⟨hi0, hi1, hz⟩
  refine cw_sr ?_
  refine steps_q rfl (q_bin rfl rfl rfl) ?_  -- orient.go:12
  refine steps_nil ?_
  refine cw_seq ?_
  refine cw_cond _ rfl (fun hc1 => ?_) (fun hc1 => ?_)
  · -- yes 1
    have hc : i < ps.length := of_decide_eq_true hc1
    obtain ⟨p, hp⟩ : ∃ p, ps[i.toNat]? = some p := ⟨ps[i.toNat]'(by omega), List.getElem?_eq_getElem (by omega)⟩
    have hpl : (ps.map Pt.l)[i.toNat]? = some p.l := by rw [List.getElem?_map, hp]; rfl
    obtain ⟨b, off, l, fz, rfl, hb, hpt⟩ := hsl.resolve_left (by intro h; rw [h] at hpl; simp at hpl)
    refine cw_skip ?_
    refine at_then ?_
    refine cw_seq ?_
    refine cw_block ?_
    refine cw_sr ?_
    refine steps_q rfl (q_indexSl slc22 rfl rfl hi0 hc) ?_  -- orient.go:12
    refine steps_q rfl (q_loadAo agg38 rfl hb (by simp) (hpt _ _ hpl)) ?_  -- orient.go:12
    refine steps_s (s_allocA 4 rfl zer38 fun b4 => ?_)  -- orient.go:12
    refine steps_s (s_storeW 4 siz38 rfl rfl rfl rfl rfl rfl ?_)  -- orient.go:12
    refine steps_nil ?_
    refine cw_sr ?_
    refine steps_q rfl (q_loadW 4 agg38 rfl rfl rfl) ?_  -- orient.go:13
    refine steps_q rfl (q_pure ent14 rfl (grid_Check p)) ?_  -- orient.go:13
    refine steps_q rfl (q_bin rfl rfl (congrArg (fun b => some (Value.bool b)) (errP_ne p))) ?_  -- orient.go:13
    refine steps_nil ?_
    refine cw_cond _ rfl (fun hc2 => ?_) (fun hc2 => ?_)
    · -- yes 2
      have hn : ¬ p.In 268435456 := by simpa using hc2
      have e : decide (okPts ps) = false := decide_eq_false fun h => hn (h p (List.mem_of_getElem? hp))
      refine cw_sr ?_
      refine steps_q rfl (q_assign rfl) ?_  -- orient.go:14
      refine steps_nil ?_
      refine cw_ret ?_
      rw [e]
      exact ret_pure rfl (rv_tmp rfl rv_nil) rfl
    · -- no 2
      have hn : p.In 268435456 := by simpa using hc2
      have hz' : ∀ (k : Nat) (q : Pt), ps[k]? = some q → (k : Int) < i + 1 → q.In 268435456 := fun k q hq hk => by
        by_cases hki : k = i.toNat
        · subst hki; rw [hp] at hq; cases hq; exact hn
        · exact hz k q hq (by omega)
      refine cw_skip ?_
      refine at_then ?_
      refine cw_region ?_
      refine steps_q rfl (q_bin rfl rfl (add64 (by omega) (by omega))) ?_  -- orient.go:12
      refine steps_q rfl (q_move rfl) ?_  -- orient.go:12
      refine steps_nil ?_
      exact at_round _ ⟨by omega, by omega, hz'⟩ (by omega) (subs ⟨rfl, rfl, rfl, trivial⟩) (subs trivial)
  · -- no 1
    have hc : ¬ i < ps.length := of_decide_eq_false hc1
    have e : decide (okPts ps) = true := decide_eq_true fun p hp => by
      obtain ⟨k, hk, he⟩ := List.getElem_of_mem hp
      exact hz k p (by rw [List.getElem?_eq_getElem hk, he]) (by omega)
    refine cw_exit ?_
    refine at_then ?_
    refine cw_sr ?_
    refine steps_q rfl (q_assign rfl) ?_  -- orient.go:17
    refine steps_nil ?_
    refine cw_ret ?_
    rw [e]
    exact ret_pure rfl (rv_tmp rfl rv_nil) rfl
end Go.Proofs.Ytomdahjakkifbaa

/-
  The walks of package orient: raises.
-/
namespace Go.Proofs.Ytomdahjakkifbaa
open Go Go.NP Go.RowKit Go.Proofs
set_option maxRecDepth 100000

/-- Does a point raise the rank? -/
def raisesB : List Pt → Pt → Bool
  | [], _ => true
  | [a], p => !decide (p = a)
  | [a, b], p => !decide (crossP (subP b a) (subP p a) = ⟨0, 0, 0⟩)
  | [a, b, c], p => !decide (dotS (crossP (subP c a) (subP p a)) (subP b a) = 0)
  | _, _ => false
theorem bldS0 : ∀ w, (Instr.build 28 #[]).run Try.prog w = .ok (.agg (Sp.l ⟨0, 0, 0⟩).toArray) w := fun w => by kernel_rfl
theorem z3fits : (⟨0, 0, 0⟩ : Sp).fits := ⟨fits0, fits0, fits0⟩
theorem bd_big {x k : Int} (h : -k ≤ x ∧ x ≤ k) (hk : k ≤ Big) : -Big ≤ x ∧ x ≤ Big := by omega
theorem sgnI_ne (x : Int) : (sgnI x != 0) = !decide (x = 0) := by
  unfold sgnI
  by_cases h1 : x < 0
  · rw [if_pos h1]; simp; omega
  · rw [if_neg h1]
    by_cases h2 : x = 0
    · simp [h2]
    · rw [if_neg h2]; simp [h2]
section
variable {w : World} {bt : Nat} {v : Value} {p : Pt}
abbrev Raises (w : World) (bt : Nat) (p : Pt) (b : Bool) : Prop := Calls Try.prog 40 #[.pointer (some ⟨bt, 0, none⟩), .agg p.l.toArray] w fun e w' => e = .returned (.bool b) ∧ Below w.heap.size w w'

theorem raises0 (hbt : w.heap[bt]? = some (.cells [v].toArray 84 (0, 0))) (h : PtsAt w v []) : Raises w bt p true := by
  obtain ⟨a0, c0, hv, -⟩ := h
  obtain rfl : v = .slice a0 0 c0 := hv
  refine calls_of Try.func40 rfl Try.ntmps40 rfl (St.start w) (args := [.pointer (some ⟨bt, 0, none⟩), .agg p.l.toArray]) ?_
  refine cw_sr ?_
  refine steps_s (s_boxA 3 rfl rfl fun b3 => ?_)  -- orient.go:37
  refine steps_q rfl (q_assign rfl) ?_  -- orient.go:37
  refine steps_nil ?_
  refine cw_seq ?_
  refine cw_sr ?_
  refine steps_q rfl (q_move rfl) ?_  -- orient.go:38
  refine steps_q rfl (q_nilck rfl) ?_  -- orient.go:38
  refine steps_q rfl (q_field fld84_0 rfl) ?_  -- orient.go:38
  refine steps_q rfl (q_load1o one22 rfl hbt (by simp) rfl) ?_  -- orient.go:38
  refine steps_q rfl (q_lenSl Try.underlying22 rfl) ?_  -- orient.go:38
  refine steps_nil ?_
  refine cw_block ?_
  refine cw_sr ?_
  refine steps_q rfl (q_bin rfl rfl rfl) ?_  -- orient.go:39
  refine steps_q rfl (q_assign rfl) ?_  -- orient.go:39
  refine steps_nil ?_
  refine cw_cond _ rfl (fun hc1 => ?_) (fun hc1 => ?_)
  · -- yes 1
    refine cw_sr ?_
    refine steps_q rfl (q_assign rfl) ?_  -- orient.go:40
    refine steps_nil ?_
    refine cw_ret ?_
    exact ret_pure rfl (rv_tmp rfl rv_nil) rfl
  · cases hc1

theorem raises1 {a : Pt} (hbt : w.heap[bt]? = some (.cells [v].toArray 84 (0, 0))) (h : PtsAt w v [a]) : Raises w bt p (!decide (p = a)) := by
  obtain ⟨a0, c0, hv, hs⟩ := h
  obtain ⟨bl, off, l, fz, rfl, hb, hpt⟩ := hs.resolve_left (by simp)
  obtain rfl : v = .slice (some ⟨bl, off, none⟩) 1 c0 := hv
  refine calls_of Try.func40 rfl Try.ntmps40 rfl (St.start w) (args := [.pointer (some ⟨bt, 0, none⟩), .agg p.l.toArray]) ?_
  refine cw_sr ?_
  refine steps_s (s_boxA 3 rfl rfl fun b3 => ?_)  -- orient.go:37
  refine steps_q rfl (q_assign rfl) ?_  -- orient.go:37
  refine steps_nil ?_
  refine cw_seq ?_
  refine cw_sr ?_
  refine steps_q rfl (q_move rfl) ?_  -- orient.go:38
  refine steps_q rfl (q_nilck rfl) ?_  -- orient.go:38
  refine steps_q rfl (q_field fld84_0 rfl) ?_  -- orient.go:38
  refine steps_q rfl (q_load1o one22 rfl hbt (by simp) rfl) ?_  -- orient.go:38
  refine steps_q rfl (q_lenSl Try.underlying22 rfl) ?_  -- orient.go:38
  refine steps_nil ?_
  refine cw_block ?_
  refine cw_sr ?_
  refine steps_q rfl (q_bin rfl rfl rfl) ?_  -- orient.go:39
  refine steps_q rfl (q_assign rfl) ?_  -- orient.go:39
  refine steps_nil ?_
  refine cw_cond _ rfl (fun hc1 => ?_) (fun hc1 => ?_)
  · cases hc1
  · -- no 1
    refine cw_sr ?_
    refine steps_q rfl (q_bin rfl rfl rfl) ?_  -- orient.go:41
    refine steps_q rfl (q_assign rfl) ?_  -- orient.go:41
    refine steps_nil ?_
    refine cw_cond _ rfl (fun hc2 => ?_) (fun hc2 => ?_)
    · -- yes 2
      refine cw_sd mixed [0, 1, 2, 3, 4, 5, 6, 7, 8] 0 _ (by kernel_rfl) (SubL.refl _) ?_
      refine qi_q rfl rfl (q_loadW 3 agg38 rfl rfl rfl) ?_  -- orient.go:42
      refine qi_q rfl rfl (q_move rfl) ?_  -- orient.go:42
      refine qi_q rfl rfl (q_nilck rfl) ?_  -- orient.go:42
      refine qi_q rfl rfl (q_field fld84_0 rfl) ?_  -- orient.go:42
      refine qi_q rfl rfl (q_load1o one22 rfl hbt (by simp) rfl) ?_  -- orient.go:42
      refine qi_q rfl rfl (q_indexSl slc22 rfl rfl (by decide) (by decide)) ?_  -- orient.go:42
      refine qi_q rfl rfl (q_loadAo agg38 rfl hb (by simp) (hpt 0 _ rfl)) ?_  -- orient.go:42
      refine qi_q rfl rfl (q_aneq rfl rfl (eqlP p a) rfl) ?_  -- orient.go:42
      refine qi_q rfl rfl (q_assign rfl) ?_  -- orient.go:42
      refine qi_nil ?_
      refine tail_nil (by kernel_rfl) ?_
      refine cw_ret ?_
      exact ret_pure rfl (rv_tmp rfl rv_nil) rfl
    · cases hc2

theorem raises2 {a b : Pt} (hbt : w.heap[bt]? = some (.cells [v].toArray 84 (0, 0))) (h : PtsAt w v [a, b]) (ha : a.In 268435456) (hb' : b.In 268435456) (hp : p.In 268435456) : Raises w bt p (!decide (crossP (subP b a) (subP p a) = ⟨0, 0, 0⟩)) := by
  obtain ⟨a0, c0, hv, hs⟩ := h
  obtain ⟨bl, off, l, fz, rfl, hb, hpt⟩ := hs.resolve_left (by simp)
  obtain rfl : v = .slice (some ⟨bl, off, none⟩) 2 c0 := hv
  have k : ∀ {q : Pt}, q.In 268435456 → q.In P40 := fun h => h.mono (by decide)
  have db : (subP b a).In P40 := (sub_bd hb' ha).mono (by decide)
  have dp : (subP p a).In P40 := (sub_bd hp ha).mono (by decide)
  refine calls_of Try.func40 rfl Try.ntmps40 rfl (St.start w) (args := [.pointer (some ⟨bt, 0, none⟩), .agg p.l.toArray]) ?_
  refine cw_sr ?_
  refine steps_s (s_boxA 3 rfl rfl fun b3 => ?_)  -- orient.go:37
  refine steps_q rfl (q_assign rfl) ?_  -- orient.go:37
  refine steps_nil ?_
  refine cw_seq ?_
  refine cw_sr ?_
  refine steps_q rfl (q_move rfl) ?_  -- orient.go:38
  refine steps_q rfl (q_nilck rfl) ?_  -- orient.go:38
  refine steps_q rfl (q_field fld84_0 rfl) ?_  -- orient.go:38
  refine steps_q rfl (q_load1o one22 rfl hbt (by simp) rfl) ?_  -- orient.go:38
  refine steps_q rfl (q_lenSl Try.underlying22 rfl) ?_  -- orient.go:38
  refine steps_nil ?_
  refine cw_block ?_
  refine cw_sr ?_
  refine steps_q rfl (q_bin rfl rfl rfl) ?_  -- orient.go:39
  refine steps_q rfl (q_assign rfl) ?_  -- orient.go:39
  refine steps_nil ?_
  refine cw_cond _ rfl (fun hc1 => ?_) (fun hc1 => ?_)
  · cases hc1
  · -- no 1
    refine cw_sr ?_
    refine steps_q rfl (q_bin rfl rfl rfl) ?_  -- orient.go:41
    refine steps_q rfl (q_assign rfl) ?_  -- orient.go:41
    refine steps_nil ?_
    refine cw_cond _ rfl (fun hc2 => ?_) (fun hc2 => ?_)
    · cases hc2
    · -- no 2
      refine cw_sr ?_
      refine steps_q rfl (q_bin rfl rfl rfl) ?_  -- orient.go:43
      refine steps_q rfl (q_assign rfl) ?_  -- orient.go:43
      refine steps_nil ?_
      refine cw_cond _ rfl (fun hc3 => ?_) (fun hc3 => ?_)
      · -- yes 3
        refine cw_sd mixed [0, 1, 2, 3, 4, 5, 6, 7, 8, 9, 10, 11, 12, 13, 14, 15, 16, 17, 18, 19, 20, 21, 22, 23, 24] 0 _ (by kernel_rfl) (SubL.refl _) ?_
        refine qi_q rfl rfl (q_move rfl) ?_  -- orient.go:44
        refine qi_q rfl rfl (q_nilck rfl) ?_  -- orient.go:44
        refine qi_q rfl rfl (q_field fld84_0 rfl) ?_  -- orient.go:44
        refine qi_q rfl rfl (q_load1o one22 rfl hbt (by simp) rfl) ?_  -- orient.go:44
        refine qi_q rfl rfl (q_indexSl slc22 rfl rfl (by decide) (by decide)) ?_  -- orient.go:44
        refine qi_q rfl rfl (q_loadAo agg38 rfl hb (by simp) (hpt 1 _ rfl)) ?_  -- orient.go:44
        refine qi_q rfl rfl (q_move rfl) ?_  -- orient.go:44
        refine qi_q rfl rfl (q_nilck rfl) ?_  -- orient.go:44
        refine qi_q rfl rfl (q_field fld84_0 rfl) ?_  -- orient.go:44
        refine qi_q rfl rfl (q_load1o one22 rfl hbt (by simp) rfl) ?_  -- orient.go:44
        refine qi_q rfl rfl (q_indexSl slc22 rfl rfl (by decide) (by decide)) ?_  -- orient.go:44
        refine qi_q rfl rfl (q_loadAo agg38 rfl hb (by simp) (hpt 0 _ rfl)) ?_  -- orient.go:44
        refine qi_q rfl rfl (q_pure ent62 rfl (orient_less (k hb') (k ha))) ?_  -- orient.go:44
        refine qi_q rfl rfl (q_loadW 3 agg38 rfl rfl rfl) ?_  -- orient.go:44
        refine qi_q rfl rfl (q_move rfl) ?_  -- orient.go:44
        refine qi_q rfl rfl (q_nilck rfl) ?_  -- orient.go:44
        refine qi_q rfl rfl (q_field fld84_0 rfl) ?_  -- orient.go:44
        refine qi_q rfl rfl (q_load1o one22 rfl hbt (by simp) rfl) ?_  -- orient.go:44
        refine qi_q rfl rfl (q_indexSl slc22 rfl rfl (by decide) (by decide)) ?_  -- orient.go:44
        refine qi_q rfl rfl (q_loadAo agg38 rfl hb (by simp) (hpt 0 _ rfl)) ?_  -- orient.go:44
        refine qi_q rfl rfl (q_pure ent62 rfl (orient_less (k hp) (k ha))) ?_  -- orient.go:44
        refine qi_q rfl rfl (q_pure ent61 rfl (grid_Cross db dp)) ?_  -- orient.go:44
        refine qi_q rfl rfl (q_build (vs := []) rfl rfl bldS0) ?_  -- orient.go:44
        refine qi_q rfl rfl (q_aneq rfl rfl (eqlS ((cross_bd db dp).fits (by decide)) z3fits) rfl) ?_  -- orient.go:44
        refine qi_q rfl rfl (q_assign rfl) ?_  -- orient.go:44
        refine qi_nil ?_
        refine tail_nil (by kernel_rfl) ?_
        refine cw_ret ?_
        exact ret_pure rfl (rv_tmp rfl rv_nil) rfl
      · cases hc3

theorem raises3 {a b c : Pt} (hbt : w.heap[bt]? = some (.cells [v].toArray 84 (0, 0))) (h : PtsAt w v [a, b, c]) (ha : a.In 268435456) (hb' : b.In 268435456) (hc : c.In 268435456) (hp : p.In 268435456) : Raises w bt p (!decide (dotS (crossP (subP c a) (subP p a)) (subP b a) = 0)) := by
  obtain ⟨a0, c0, hv, hs⟩ := h
  obtain ⟨bl, off, l, fz, rfl, hb, hpt⟩ := hs.resolve_left (by simp)
  obtain rfl : v = .slice (some ⟨bl, off, none⟩) 3 c0 := hv
  have k : ∀ {q : Pt}, q.In 268435456 → q.In P40 := fun h => h.mono (by decide)
  have db : (subP b a).In P40 := (sub_bd hb' ha).mono (by decide)
  have dc : (subP c a).In P40 := (sub_bd hc ha).mono (by decide)
  have dp : (subP p a).In P40 := (sub_bd hp ha).mono (by decide)
  refine calls_of Try.func40 rfl Try.ntmps40 rfl (St.start w) (args := [.pointer (some ⟨bt, 0, none⟩), .agg p.l.toArray]) ?_
  refine cw_sr ?_
  refine steps_s (s_boxA 3 rfl rfl fun b3 => ?_)  -- orient.go:37
  refine steps_q rfl (q_assign rfl) ?_  -- orient.go:37
  refine steps_nil ?_
  refine cw_seq ?_
  refine cw_sr ?_
  refine steps_q rfl (q_move rfl) ?_  -- orient.go:38
  refine steps_q rfl (q_nilck rfl) ?_  -- orient.go:38
  refine steps_q rfl (q_field fld84_0 rfl) ?_  -- orient.go:38
  refine steps_q rfl (q_load1o one22 rfl hbt (by simp) rfl) ?_  -- orient.go:38
  refine steps_q rfl (q_lenSl Try.underlying22 rfl) ?_  -- orient.go:38
  refine steps_nil ?_
  refine cw_block ?_
  refine cw_sr ?_
  refine steps_q rfl (q_bin rfl rfl rfl) ?_  -- orient.go:39
  refine steps_q rfl (q_assign rfl) ?_  -- orient.go:39
  refine steps_nil ?_
  refine cw_cond _ rfl (fun hc1 => ?_) (fun hc1 => ?_)
  · cases hc1
  · -- no 1
    refine cw_sr ?_
    refine steps_q rfl (q_bin rfl rfl rfl) ?_  -- orient.go:41
    refine steps_q rfl (q_assign rfl) ?_  -- orient.go:41
    refine steps_nil ?_
    refine cw_cond _ rfl (fun hc2 => ?_) (fun hc2 => ?_)
    · cases hc2
    · -- no 2
      refine cw_sr ?_
      refine steps_q rfl (q_bin rfl rfl rfl) ?_  -- orient.go:43
      refine steps_q rfl (q_assign rfl) ?_  -- orient.go:43
      refine steps_nil ?_
      refine cw_cond _ rfl (fun hc3 => ?_) (fun hc3 => ?_)
      · cases hc3
      · -- no 3
        refine cw_sr ?_
        refine steps_q rfl (q_bin rfl rfl rfl) ?_  -- orient.go:45
        refine steps_q rfl (q_assign rfl) ?_  -- orient.go:45
        refine steps_nil ?_
        refine cw_cond _ rfl (fun hc4 => ?_) (fun hc4 => ?_)
        · -- yes 4
          refine cw_sd mixed [0, 1, 2, 3, 4, 5, 6, 7, 8, 9, 10, 11, 12, 13, 14, 15, 16, 17, 18, 19, 20, 21, 22, 23, 24, 25, 26, 27, 28, 29, 30, 31, 32, 33, 34, 35, 36, 37] 0 _ (by kernel_rfl) (SubL.refl _) ?_
          refine qi_q rfl rfl (q_move rfl) ?_  -- orient.go:46
          refine qi_q rfl rfl (q_nilck rfl) ?_  -- orient.go:46
          refine qi_q rfl rfl (q_field fld84_0 rfl) ?_  -- orient.go:46
          refine qi_q rfl rfl (q_load1o one22 rfl hbt (by simp) rfl) ?_  -- orient.go:46
          refine qi_q rfl rfl (q_indexSl slc22 rfl rfl (by decide) (by decide)) ?_  -- orient.go:46
          refine qi_q rfl rfl (q_loadAo agg38 rfl hb (by simp) (hpt 1 _ rfl)) ?_  -- orient.go:46
          refine qi_q rfl rfl (q_move rfl) ?_  -- orient.go:46
          refine qi_q rfl rfl (q_nilck rfl) ?_  -- orient.go:46
          refine qi_q rfl rfl (q_field fld84_0 rfl) ?_  -- orient.go:46
          refine qi_q rfl rfl (q_load1o one22 rfl hbt (by simp) rfl) ?_  -- orient.go:46
          refine qi_q rfl rfl (q_indexSl slc22 rfl rfl (by decide) (by decide)) ?_  -- orient.go:46
          refine qi_q rfl rfl (q_loadAo agg38 rfl hb (by simp) (hpt 0 _ rfl)) ?_  -- orient.go:46
          refine qi_q rfl rfl (q_pure ent62 rfl (orient_less (k hb') (k ha))) ?_  -- orient.go:46
          refine qi_q rfl rfl (q_move rfl) ?_  -- orient.go:46
          refine qi_q rfl rfl (q_nilck rfl) ?_  -- orient.go:46
          refine qi_q rfl rfl (q_field fld84_0 rfl) ?_  -- orient.go:46
          refine qi_q rfl rfl (q_load1o one22 rfl hbt (by simp) rfl) ?_  -- orient.go:46
          refine qi_q rfl rfl (q_indexSl slc22 rfl rfl (by decide) (by decide)) ?_  -- orient.go:46
          refine qi_q rfl rfl (q_loadAo agg38 rfl hb (by simp) (hpt 2 _ rfl)) ?_  -- orient.go:46
          refine qi_q rfl rfl (q_move rfl) ?_  -- orient.go:46
          refine qi_q rfl rfl (q_nilck rfl) ?_  -- orient.go:46
          refine qi_q rfl rfl (q_field fld84_0 rfl) ?_  -- orient.go:46
          refine qi_q rfl rfl (q_load1o one22 rfl hbt (by simp) rfl) ?_  -- orient.go:46
          refine qi_q rfl rfl (q_indexSl slc22 rfl rfl (by decide) (by decide)) ?_  -- orient.go:46
          refine qi_q rfl rfl (q_loadAo agg38 rfl hb (by simp) (hpt 0 _ rfl)) ?_  -- orient.go:46
          refine qi_q rfl rfl (q_pure ent62 rfl (orient_less (k hc) (k ha))) ?_  -- orient.go:46
          refine qi_q rfl rfl (q_loadW 3 agg38 rfl rfl rfl) ?_  -- orient.go:46
          refine qi_q rfl rfl (q_move rfl) ?_  -- orient.go:46
          refine qi_q rfl rfl (q_nilck rfl) ?_  -- orient.go:46
          refine qi_q rfl rfl (q_field fld84_0 rfl) ?_  -- orient.go:46
          refine qi_q rfl rfl (q_load1o one22 rfl hbt (by simp) rfl) ?_  -- orient.go:46
          refine qi_q rfl rfl (q_indexSl slc22 rfl rfl (by decide) (by decide)) ?_  -- orient.go:46
          refine qi_q rfl rfl (q_loadAo agg38 rfl hb (by simp) (hpt 0 _ rfl)) ?_  -- orient.go:46
          refine qi_q rfl rfl (q_pure ent62 rfl (orient_less (k hp) (k ha))) ?_  -- orient.go:46
          refine qi_q rfl rfl (q_pure ent63 rfl (grid_Det db dc dp)) ?_  -- orient.go:46
          refine qi_q rfl rfl (q_pure ent28 rfl (wide_Sign _ (fits_big (bd_big (dotS_bd (cross_bd dc dp) db) (by decide))))) ?_  -- orient.go:46
          refine qi_q rfl rfl (q_bin rfl rfl (congrArg (fun b => some (Value.bool b)) (sgnI_ne _))) ?_  -- orient.go:46
          refine qi_q rfl rfl (q_assign rfl) ?_  -- orient.go:46
          refine qi_nil ?_
          refine tail_nil (by kernel_rfl) ?_
          refine cw_ret ?_
          exact ret_pure rfl (rv_tmp rfl rv_nil) rfl
        · cases hc4

theorem raises4 {a b c d : Pt} (hbt : w.heap[bt]? = some (.cells [v].toArray 84 (0, 0))) (h : PtsAt w v [a, b, c, d]) : Raises w bt p (false) := by
  obtain ⟨a0, c0, hv, hs⟩ := h
  obtain ⟨bl, off, l, fz, rfl, hb, hpt⟩ := hs.resolve_left (by simp)
  obtain rfl : v = .slice (some ⟨bl, off, none⟩) 4 c0 := hv
  refine calls_of Try.func40 rfl Try.ntmps40 rfl (St.start w) (args := [.pointer (some ⟨bt, 0, none⟩), .agg p.l.toArray]) ?_
  refine cw_sr ?_
  refine steps_s (s_boxA 3 rfl rfl fun b3 => ?_)  -- orient.go:37
  refine steps_q rfl (q_assign rfl) ?_  -- orient.go:37
  refine steps_nil ?_
  refine cw_seq ?_
  refine cw_sr ?_
  refine steps_q rfl (q_move rfl) ?_  -- orient.go:38
  refine steps_q rfl (q_nilck rfl) ?_  -- orient.go:38
  refine steps_q rfl (q_field fld84_0 rfl) ?_  -- orient.go:38
  refine steps_q rfl (q_load1o one22 rfl hbt (by simp) rfl) ?_  -- orient.go:38
  refine steps_q rfl (q_lenSl Try.underlying22 rfl) ?_  -- orient.go:38
  refine steps_nil ?_
  refine cw_block ?_
  refine cw_sr ?_
  refine steps_q rfl (q_bin rfl rfl rfl) ?_  -- orient.go:39
  refine steps_q rfl (q_assign rfl) ?_  -- orient.go:39
  refine steps_nil ?_
  refine cw_cond _ rfl (fun hc1 => ?_) (fun hc1 => ?_)
  · cases hc1
  · -- no 1
    refine cw_sr ?_
    refine steps_q rfl (q_bin rfl rfl rfl) ?_  -- orient.go:41
    refine steps_q rfl (q_assign rfl) ?_  -- orient.go:41
    refine steps_nil ?_
    refine cw_cond _ rfl (fun hc2 => ?_) (fun hc2 => ?_)
    · cases hc2
    · -- no 2
      refine cw_sr ?_
      refine steps_q rfl (q_bin rfl rfl rfl) ?_  -- orient.go:43
      refine steps_q rfl (q_assign rfl) ?_  -- orient.go:43
      refine steps_nil ?_
      refine cw_cond _ rfl (fun hc3 => ?_) (fun hc3 => ?_)
      · cases hc3
      · -- no 3
        refine cw_sr ?_
        refine steps_q rfl (q_bin rfl rfl rfl) ?_  -- orient.go:45
        refine steps_q rfl (q_assign rfl) ?_  -- orient.go:45
        refine steps_nil ?_
        refine cw_cond _ rfl (fun hc4 => ?_) (fun hc4 => ?_)
        · cases hc4
        · -- no 4
          refine cw_skip ?_
          refine at_then ?_
          refine cw_sr ?_
          refine steps_q rfl (q_assign rfl) ?_  -- orient.go:48
          refine steps_nil ?_
          refine cw_ret ?_
          exact ret_pure rfl (rv_tmp rfl rv_nil) rfl
end
end Go.Proofs.Ytomdahjakkifbaa

/-
  The walks of package orient: Spread, Rank.
-/
namespace Go.Proofs.Ytomdahjakkifbaa
open Go Go.NP Go.RowKit Go.Proofs
set_option maxRecDepth 100000

theorem raises_of {w : World} {bt : Nat} {v : Value} {p : Pt} {qs : List Pt} (hbt : w.heap[bt]? = some (.cells [v].toArray 84 (0, 0))) (h : PtsAt w v qs) (hl : qs.length ≤ 4) (hq : okPts qs) (hp : p.In 268435456) : Raises w bt p (raisesB qs p) := by
  match qs, hl, hq with
  | [], _, _ => exact raises0 hbt h
  | [a], _, _ => exact raises1 hbt h
  | [a, b], _, hq => exact raises2 hbt h (hq a (by simp)) (hq b (by simp)) hp
  | [a, b, c], _, hq => exact raises3 hbt h (hq a (by simp)) (hq b (by simp)) (hq c (by simp)) hp
  | [a, b, c, d], _, _ => exact raises4 hbt h
theorem raises_le {qs : List Pt} {p : Pt} (hl : qs.length ≤ 4) (h : raisesB qs p = true) : qs.length ≤ 3 := by
  match qs, hl, h with
  | [], _, _ => simp
  | [_], _, _ => simp
  | [_, _], _, _ => simp
  | [_, _, _], _, _ => simp
  | [a, b, c, d], _, h => simp [raisesB] at h

/-- Those that raise the rank, and their places, of a list that goes on. -/
def sprd : List Pt → Int → List Pt → List Int → List Pt × List Int
  | [], _, qs, ks => (qs, ks)
  | p :: r, k, qs, ks => if raisesB qs p then sprd r (k + 1) (qs ++ [p]) (ks ++ [k]) else sprd r (k + 1) qs ks
def intC (k : Int) : List Value := [.int .i64 k]
theorem bslP (p : Pt) : ∀ w, (Instr.buildSlice 22 1 [(0, Value.agg p.l.toArray)].toArray).run Try.prog w = .ok (.slice (some ⟨w.heap.size, 0, none⟩) 1 1) (w.alloc (.cells p.l.toArray 38)) := fun w => by kernel_rfl
theorem bslI (k : Int) : ∀ w, (Instr.buildSlice 29 1 [(0, Value.int .i64 k)].toArray).run Try.prog w = .ok (.slice (some ⟨w.heap.size, 0, none⟩) 1 1) (w.alloc (.cells (intC k).toArray 3)) := fun w => by kernel_rfl

theorem at_ng_ret {w0 : World} {M : List Nat} {N : Nat} {D : Dfr} {T : TL} {L : HL} {Q : Exit → Act → World → Prop} (h : At w0 M N D Q .ret T L) : At w0 M N D (Exit.noGoto Q) .ret T L := h
theorem sv_both {a b : SV} (h : a.isSome = b.isSome) : (a = none ∧ b = none) ∨ ∃ g1 c1 k1 g2 c2 k2, a = some (g1, c1, k1) ∧ b = some (g2, c2, k2) := by
  rcases a with _ | ⟨g1, c1, k1⟩ <;> rcases b with _ | ⟨g2, c2, k2⟩
  · exact .inl ⟨rfl, rfl⟩
  · cases h
  · cases h
  · exact .inr ⟨_, _, _, _, _, _, rfl, rfl⟩
/-- What a round of Spread begins with. -/
structure SpI (ps : List Pt) (i : Int) (n : Nat) (qs : List Pt) (ks : List Int) (st so : SV) : Prop where
  i0 : 0 ≤ i
  i1 : i ≤ ps.length
  tot : sprd (ps.drop i.toNat) i qs ks = sprd ps 0 [] []
  lq : qs.length = n
  lk : ks.length = n
  le : n ≤ 4
  ok : okPts qs
  stOk : st.ok 3 (qs.map Pt.l)
  soOk : so.ok 1 (ks.map intC)
  iso : st.isSome = so.isSome
theorem drop_at {α : Type} {l : List α} {i : Nat} {x : α} (h : l[i]? = some x) : l.drop i = x :: l.drop (i + 1) := by
  obtain ⟨hi, he⟩ := List.getElem?_eq_some_iff.1 h
  rw [List.drop_eq_getElem_cons hi, he]

set_option maxHeartbeats 4000000 in
theorem orient_Spread_ok {ps : List Pt} {v : Value} (w : World) (h : PtsAt w v ps) (hok : okPts ps) (hlen : ps.length ≤ 256) :
    Calls Try.prog 24 #[v] w fun e w' => (∃ a c, e = .returned (.tuple #[.slice a (sprd ps 0 [] []).2.length c, .int .i64 0])) ∧ Below w.heap.size w w' := by
  have hv := h
  obtain ⟨a, c, rfl, hsl⟩ := h
  rw [List.length_map] at hv ⊢
  refine calls_of Try.func24 rfl Try.ntmps24 rfl (St.start w) (args := [.slice a ps.length c]) ?_
  refine cw_sr ?_
  refine steps_q rfl (q_assign rfl) ?_  -- orient.go:52
  refine steps_q rfl (q_assign rfl) ?_  -- orient.go:52
  refine steps_nil ?_
  refine cw_scope ?_
  refine cw_sr ?_
  refine steps_s (s_allocA 4 rfl zer84 fun b4 => ?_)  -- orient.go:53
  refine steps_nil ?_
  refine cw_sr ?_
  refine steps_q rfl (q_func rfl rfl) ?_  -- orient.go:54
  refine steps_q rfl (q_assign rfl) ?_  -- orient.go:54
  refine steps_nil ?_
  refine cw_seq ?_
  refine cw_sr ?_
  refine steps_q rfl (q_move rfl) ?_  -- orient.go:55
  refine steps_q rfl (q_call ent41 rfl rfl (fun w' hw => by simpa [hok] using orient_fine w' (SlAt.st hv hw) (by omega))) ?_  -- orient.go:55
  refine steps_q rfl (q_not rfl rfl) ?_  -- orient.go:55
  refine steps_nil ?_
  refine cw_cond _ rfl (fun hc1 => ?_) (fun hc1 => ?_)
  · cases hc1
  · -- no 1
    refine cw_skip ?_
    refine at_then ?_
    refine cw_seq ?_
    refine cw_sr ?_
    refine steps_q rfl (q_move rfl) ?_  -- orient.go:59
    refine steps_q rfl (q_lenSl Try.underlying22 rfl) ?_  -- orient.go:59
    refine steps_q rfl (q_bin rfl rfl rfl) ?_  -- orient.go:59
    refine steps_nil ?_
    refine cw_cond _ rfl (fun hc2 => ?_) (fun hc2 => ?_)
    · have := of_decide_eq_true hc2
      omega
    · -- no 2
      refine cw_skip ?_
      refine at_then ?_
      refine cw_seq ?_
      refine cw_sr ?_
      refine steps_q rfl (q_move rfl) ?_  -- orient.go:63
      refine steps_q rfl (q_lenSl Try.underlying22 rfl) ?_  -- orient.go:63
      refine steps_q rfl (q_move rfl) ?_  -- orient.go:63
      refine steps_nil ?_
      refine cw_block ?_
      -- LOOP 1 writes [2, 6, 7, 17, 18, 19, 20, 21, 22, 23, 24, 25, 26, 27, 28, 29, 30, 31, 32, 33, 34, 35]  stores via [7, 30]  reads [4, 5, 15, 16]
      refine cw_loop (S := Int × Nat × List Pt × List Int × SV × SV) (fun (i, n, qs, ks, st, so) => [(2, so.v n), (3, .int .i64 0), (4, .pointer (some ⟨b4, 0, none⟩)), (5, .func (.func 40) #[.pointer (some ⟨b4, 0, none⟩)] #[]), (15, .slice a ps.length c), (16, .int .i64 ps.length), (17, .int .i64 i)])
        (fun (i, n, qs, ks, st, so) => (4, (b4, .cells [st.v n].toArray 84 (0, 0))) :: (st.l 61 38 ++ so.l 62 3)) (fun (i, n, qs, ks, st, so) => SpI ps i n qs ks st so) (fun s => (ps.length - s.1).toNat) (0, 0, [], [], none, none) ⟨by omega, by omega, rfl, rfl, rfl, by omega, (fun p hp => nomatch hp), rfl, rfl, rfl⟩
        (subs ⟨rfl, rfl, rfl, rfl, rfl, rfl, rfl, trivial⟩) (subs ⟨rfl, trivial⟩) ?_
      rintro ⟨i, n, qs, ks, st, so⟩ hI
      dsimp only at hI
      conv => enter [7]; dsimp only
      conv => enter [8]; dsimp only
      obtain ⟨hi0, hi1, htot, hlq, hlk, hle, hokq, hst, hso, hiso⟩ := hI
      refine cw_sr ?_
      refine steps_q rfl (q_bin rfl rfl rfl) ?_  -- orient.go:63
      refine steps_nil ?_
      refine cw_seq ?_
      refine cw_cond _ rfl (fun hc3 => ?_) (fun hc3 => ?_)
      · -- yes 3
        have hc : i < ps.length := of_decide_eq_true hc3
        obtain ⟨p, hp⟩ : ∃ p, ps[i.toNat]? = some p := ⟨ps[i.toNat]'(by omega), List.getElem?_eq_getElem (by omega)⟩
        have hpl : (ps.map Pt.l)[i.toNat]? = some p.l := by rw [List.getElem?_map, hp]; rfl
        have hpin : p.In 268435456 := hok p (List.mem_of_getElem? hp)
        obtain ⟨b, off, l, fz, rfl, hb, hpt⟩ := hsl.resolve_left (by intro h; rw [h] at hpl; simp at hpl)
        rw [drop_at hp] at htot
        have hi' : (i + 1).toNat = i.toNat + 1 := by omega
        refine cw_skip ?_
        refine at_then ?_
        refine cw_seq ?_
        refine cw_block ?_
        rcases sv_both hiso with ⟨rfl, rfl⟩ | ⟨g1, cur1, cap1, g2, cur2, cap2, rfl, rfl⟩
        · -- way 9.a
          refine cw_sr ?_
          refine steps_q rfl (q_move rfl) ?_  -- orient.go:63
          refine steps_q rfl (q_indexSl slc22 rfl rfl hi0 hc) ?_  -- orient.go:63
          refine steps_q rfl (q_loadAo agg38 rfl hb (by simp) (hpt _ _ hpl)) ?_  -- orient.go:63
          refine steps_s (s_allocA 7 rfl zer38 fun b7 => ?_)  -- orient.go:63
          refine steps_q rfl (q_assign rfl) ?_  -- orient.go:63
          refine steps_s (s_storeW 7 siz38 rfl rfl rfl rfl rfl rfl ?_)  -- orient.go:63
          refine steps_nil ?_
          refine cw_sr ?_
          refine steps_q rfl (q_move rfl) ?_  -- orient.go:64
          refine steps_q rfl (q_loadW 7 agg38 rfl rfl rfl) ?_  -- orient.go:64
          refine steps_q rfl (q_call ent40 rfl rfl (fun w' hw => raises_of (hw.known 4 _ _ rfl).1 (by have := SlAt.own (q := none) (i := 61) (e := 38) hw (subs trivial) hst; rwa [List.length_map, hlq] at this) (by omega) hokq hpin)) ?_  -- orient.go:64
          refine steps_nil ?_
          refine cw_cond _ rfl (fun hc4 => ?_) (fun hc4 => ?_)
          · -- yes 4
            have hle3 := raises_le (by omega) hc4
            have hn1 : (qs.map Pt.l).length = n := by rw [List.length_map, hlq]
            have hn2 : (ks.map intC).length = n := by rw [List.length_map, hlk]
            refine cw_sr ?_
            refine steps_q rfl (q_field fld84_0 rfl) ?_  -- orient.go:65
            refine steps_q rfl (q_load1 4 one22 rfl rfl rfl) ?_  -- orient.go:65
            refine steps_q rfl (q_loadW 7 agg38 rfl rfl rfl) ?_  -- orient.go:65
            refine steps_s (s_buildSl 28 rfl rfl rfl (bslP p) fun b28 => ?_)  -- orient.go:65
            refine steps_s (s_append 61 28 none (qs.map Pt.l) p.l elt22 rfl (by rw [hn1]; rfl) hst (subs trivial) rfl rfl rfl rfl (by rw [hn1]; omega) (by rw [hn1]; unfold maxLen; omega) fun g1 cur1 cap1 hk1 => ?_)  -- orient.go:65
            refine steps_q rfl (q_field fld84_0 rfl) ?_  -- orient.go:65
            refine steps_s (s_storeV 4 siz22 rfl rfl rfl rfl rfl ?_)  -- orient.go:65
            refine steps_nil ?_
            refine cw_region ?_
            refine steps_q rfl (q_move rfl) ?_  -- orient.go:66
            refine steps_q rfl (q_move rfl) ?_  -- orient.go:66
            refine steps_s (s_buildSl 33 rfl rfl rfl (bslI i) fun b33 => ?_)  -- orient.go:66
            refine steps_s (s_append 62 33 none (ks.map intC) (intC i) elt29 rfl (by rw [hn2]; rfl) hso (subs trivial) rfl rfl rfl rfl (by rw [hn2]; omega) (by rw [hn2]; unfold maxLen; omega) fun g2 cur2 cap2 hk2 => ?_)  -- orient.go:66
            refine steps_q rfl (q_assign rfl) ?_  -- orient.go:66
            refine steps_nil ?_
            refine at_then ?_
            refine cw_region ?_
            refine steps_q rfl (q_bin rfl rfl (add64 (by omega) (by omega))) ?_  -- orient.go:63
            refine steps_q rfl (q_move rfl) ?_  -- orient.go:63
            refine steps_nil ?_
            first
              | exact at_round (i + 1, n, qs, ks, _, _) ⟨by omega, by omega, by rw [hi', ← htot, sprd, if_neg (by rw [hn4]; decide)], hlq, hlk, hle, hokq, hst, hso, rfl⟩ (by dsimp only; omega) (subs ⟨rfl, rfl, rfl, rfl, rfl, rfl, rfl, trivial⟩) (subs ⟨rfl, trivial⟩)
              | exact at_round (i + 1, n, qs, ks, _, _) ⟨by omega, by omega, by rw [hi', ← htot, sprd, if_neg (by rw [hn4]; decide)], hlq, hlk, hle, hokq, hst, hso, rfl⟩ (by dsimp only; omega) (subs ⟨rfl, rfl, rfl, rfl, rfl, rfl, rfl, trivial⟩) (subs ⟨rfl, rfl, rfl, trivial⟩)
              | (rw [hn1, hn2]; exact at_round (i + 1, n + 1, qs ++ [p], ks ++ [i], some (g1, cur1, cap1), some (g2, cur2, cap2)) ⟨by omega, by omega, by rw [hi', ← htot, sprd, if_pos hc4], by simp [hlq], by simp [hlk], by omega, fun q hq => by rcases List.mem_append.1 hq with h | h; exact hokq q h; rw [List.mem_singleton.1 h]; exact hpin, by rw [List.map_append]; exact hk1, by rw [List.map_append]; exact hk2, rfl⟩ (by dsimp only; omega) (subs ⟨rfl, rfl, rfl, rfl, rfl, rfl, rfl, trivial⟩) (subs ⟨rfl, rfl, rfl, trivial⟩))
          · -- no 4
            have hn4 : raisesB qs p = false := hc4
            refine cw_skip ?_
            refine at_then ?_
            refine cw_region ?_
            refine steps_q rfl (q_bin rfl rfl (add64 (by omega) (by omega))) ?_  -- orient.go:63
            refine steps_q rfl (q_move rfl) ?_  -- orient.go:63
            refine steps_nil ?_
            first
              | exact at_round (i + 1, n, qs, ks, _, _) ⟨by omega, by omega, by rw [hi', ← htot, sprd, if_neg (by rw [hn4]; decide)], hlq, hlk, hle, hokq, hst, hso, rfl⟩ (by dsimp only; omega) (subs ⟨rfl, rfl, rfl, rfl, rfl, rfl, rfl, trivial⟩) (subs ⟨rfl, trivial⟩)
              | exact at_round (i + 1, n, qs, ks, _, _) ⟨by omega, by omega, by rw [hi', ← htot, sprd, if_neg (by rw [hn4]; decide)], hlq, hlk, hle, hokq, hst, hso, rfl⟩ (by dsimp only; omega) (subs ⟨rfl, rfl, rfl, rfl, rfl, rfl, rfl, trivial⟩) (subs ⟨rfl, rfl, rfl, trivial⟩)
              | (rw [hn1, hn2]; exact at_round (i + 1, n + 1, qs ++ [p], ks ++ [i], some (g1, cur1, cap1), some (g2, cur2, cap2)) ⟨by omega, by omega, by rw [hi', ← htot, sprd, if_pos hc4], by simp [hlq], by simp [hlk], by omega, fun q hq => by rcases List.mem_append.1 hq with h | h; exact hokq q h; rw [List.mem_singleton.1 h]; exact hpin, by rw [List.map_append]; exact hk1, by rw [List.map_append]; exact hk2, rfl⟩ (by dsimp only; omega) (subs ⟨rfl, rfl, rfl, rfl, rfl, rfl, rfl, trivial⟩) (subs ⟨rfl, rfl, rfl, trivial⟩))
        · -- way 9.b
          refine cw_sr ?_
          refine steps_q rfl (q_move rfl) ?_  -- orient.go:63
          refine steps_q rfl (q_indexSl slc22 rfl rfl hi0 hc) ?_  -- orient.go:63
          refine steps_q rfl (q_loadAo agg38 rfl hb (by simp) (hpt _ _ hpl)) ?_  -- orient.go:63
          refine steps_s (s_allocA 7 rfl zer38 fun b7 => ?_)  -- orient.go:63
          refine steps_q rfl (q_assign rfl) ?_  -- orient.go:63
          refine steps_s (s_storeW 7 siz38 rfl rfl rfl rfl rfl rfl ?_)  -- orient.go:63
          refine steps_nil ?_
          refine cw_sr ?_
          refine steps_q rfl (q_move rfl) ?_  -- orient.go:64
          refine steps_q rfl (q_loadW 7 agg38 rfl rfl rfl) ?_  -- orient.go:64
          refine steps_q rfl (q_call ent40 rfl rfl (fun w' hw => raises_of (hw.known 4 _ _ rfl).1 (by have := SlAt.own (q := some (g1, cur1, cap1)) (i := 61) (e := 38) hw (subs ⟨rfl, trivial⟩) hst; rwa [List.length_map, hlq] at this) (by omega) hokq hpin)) ?_  -- orient.go:64
          refine steps_nil ?_
          refine cw_cond _ rfl (fun hc4 => ?_) (fun hc4 => ?_)
          · -- yes 4
            have hle3 := raises_le (by omega) hc4
            have hn1 : (qs.map Pt.l).length = n := by rw [List.length_map, hlq]
            have hn2 : (ks.map intC).length = n := by rw [List.length_map, hlk]
            refine cw_sr ?_
            refine steps_q rfl (q_field fld84_0 rfl) ?_  -- orient.go:65
            refine steps_q rfl (q_load1 4 one22 rfl rfl rfl) ?_  -- orient.go:65
            refine steps_q rfl (q_loadW 7 agg38 rfl rfl rfl) ?_  -- orient.go:65
            refine steps_s (s_buildSl 28 rfl rfl rfl (bslP p) fun b28 => ?_)  -- orient.go:65
            refine steps_s (s_append 61 28 (some (g1, cur1, cap1)) (qs.map Pt.l) p.l elt22 rfl (by rw [hn1]; rfl) hst (subs ⟨rfl, trivial⟩) rfl rfl rfl rfl (by rw [hn1]; omega) (by rw [hn1]; unfold maxLen; omega) fun g1 cur1 cap1 hk1 => ?_)  -- orient.go:65
            refine steps_q rfl (q_field fld84_0 rfl) ?_  -- orient.go:65
            refine steps_s (s_storeV 4 siz22 rfl rfl rfl rfl rfl ?_)  -- orient.go:65
            refine steps_nil ?_
            refine cw_region ?_
            refine steps_q rfl (q_move rfl) ?_  -- orient.go:66
            refine steps_q rfl (q_move rfl) ?_  -- orient.go:66
            refine steps_s (s_buildSl 33 rfl rfl rfl (bslI i) fun b33 => ?_)  -- orient.go:66
            refine steps_s (s_append 62 33 (some (g2, cur2, cap2)) (ks.map intC) (intC i) elt29 rfl (by rw [hn2]; rfl) hso (subs ⟨rfl, trivial⟩) rfl rfl rfl rfl (by rw [hn2]; omega) (by rw [hn2]; unfold maxLen; omega) fun g2 cur2 cap2 hk2 => ?_)  -- orient.go:66
            refine steps_q rfl (q_assign rfl) ?_  -- orient.go:66
            refine steps_nil ?_
            refine at_then ?_
            refine cw_region ?_
            refine steps_q rfl (q_bin rfl rfl (add64 (by omega) (by omega))) ?_  -- orient.go:63
            refine steps_q rfl (q_move rfl) ?_  -- orient.go:63
            refine steps_nil ?_
            first
              | exact at_round (i + 1, n, qs, ks, _, _) ⟨by omega, by omega, by rw [hi', ← htot, sprd, if_neg (by rw [hn4]; decide)], hlq, hlk, hle, hokq, hst, hso, rfl⟩ (by dsimp only; omega) (subs ⟨rfl, rfl, rfl, rfl, rfl, rfl, rfl, trivial⟩) (subs ⟨rfl, trivial⟩)
              | exact at_round (i + 1, n, qs, ks, _, _) ⟨by omega, by omega, by rw [hi', ← htot, sprd, if_neg (by rw [hn4]; decide)], hlq, hlk, hle, hokq, hst, hso, rfl⟩ (by dsimp only; omega) (subs ⟨rfl, rfl, rfl, rfl, rfl, rfl, rfl, trivial⟩) (subs ⟨rfl, rfl, rfl, trivial⟩)
              | (rw [hn1, hn2]; exact at_round (i + 1, n + 1, qs ++ [p], ks ++ [i], some (g1, cur1, cap1), some (g2, cur2, cap2)) ⟨by omega, by omega, by rw [hi', ← htot, sprd, if_pos hc4], by simp [hlq], by simp [hlk], by omega, fun q hq => by rcases List.mem_append.1 hq with h | h; exact hokq q h; rw [List.mem_singleton.1 h]; exact hpin, by rw [List.map_append]; exact hk1, by rw [List.map_append]; exact hk2, rfl⟩ (by dsimp only; omega) (subs ⟨rfl, rfl, rfl, rfl, rfl, rfl, rfl, trivial⟩) (subs ⟨rfl, rfl, rfl, trivial⟩))
          · -- no 4
            have hn4 : raisesB qs p = false := hc4
            refine cw_skip ?_
            refine at_then ?_
            refine cw_region ?_
            refine steps_q rfl (q_bin rfl rfl (add64 (by omega) (by omega))) ?_  -- orient.go:63
            refine steps_q rfl (q_move rfl) ?_  -- orient.go:63
            refine steps_nil ?_
            first
              | exact at_round (i + 1, n, qs, ks, _, _) ⟨by omega, by omega, by rw [hi', ← htot, sprd, if_neg (by rw [hn4]; decide)], hlq, hlk, hle, hokq, hst, hso, rfl⟩ (by dsimp only; omega) (subs ⟨rfl, rfl, rfl, rfl, rfl, rfl, rfl, trivial⟩) (subs ⟨rfl, trivial⟩)
              | exact at_round (i + 1, n, qs, ks, _, _) ⟨by omega, by omega, by rw [hi', ← htot, sprd, if_neg (by rw [hn4]; decide)], hlq, hlk, hle, hokq, hst, hso, rfl⟩ (by dsimp only; omega) (subs ⟨rfl, rfl, rfl, rfl, rfl, rfl, rfl, trivial⟩) (subs ⟨rfl, rfl, rfl, trivial⟩)
              | (rw [hn1, hn2]; exact at_round (i + 1, n + 1, qs ++ [p], ks ++ [i], some (g1, cur1, cap1), some (g2, cur2, cap2)) ⟨by omega, by omega, by rw [hi', ← htot, sprd, if_pos hc4], by simp [hlq], by simp [hlk], by omega, fun q hq => by rcases List.mem_append.1 hq with h | h; exact hokq q h; rw [List.mem_singleton.1 h]; exact hpin, by rw [List.map_append]; exact hk1, by rw [List.map_append]; exact hk2, rfl⟩ (by dsimp only; omega) (subs ⟨rfl, rfl, rfl, rfl, rfl, rfl, rfl, trivial⟩) (subs ⟨rfl, rfl, rfl, trivial⟩))
      · -- no 3
        have hc : ¬ i < ps.length := of_decide_eq_false hc3
        have e : i.toNat = ps.length := by omega
        rw [e, List.drop_length, sprd] at htot
        obtain ⟨a', c', hv'⟩ : ∃ a' c', so.v n = .slice a' n c' := by
          rcases so with _ | ⟨g, cur, cap⟩
          · simp only [SV.ok, List.map_eq_nil_iff] at hso
            subst hso
            simp at hlk
            subst hlk
            exact ⟨_, _, rfl⟩
          · exact ⟨_, _, rfl⟩
        rw [← htot, hv']
        refine cw_exit ?_
        refine at_then ?_
        refine cw_seq ?_
        refine cw_sr ?_
        refine steps_q rfl (q_move rfl) ?_  -- orient.go:69
        refine steps_q rfl (q_assign rfl) ?_  -- orient.go:69
        refine steps_q rfl (q_assign rfl) ?_  -- orient.go:69
        refine steps_nil ?_
        refine cw_ret ?_
        refine At.of_then_ret ?_
        refine at_ng_ret ?_
        exact at_ret rfl (rv_tmp rfl (rv_tmp rfl rv_nil)) fun w' hw => ⟨⟨_, _, by rw [hlk]; rfl⟩, hw.below⟩

theorem at_jump_other {w0 : World} {M : List Nat} {N : Nat} {D : Dfr} {T : TL} {L : HL} {Q : Exit → Act → World → Prop} {J : Act → World → Prop} {l : Nat} (h : At w0 M N D Q .ret T L) : At w0 M N D (Exit.jump l J Q) .ret T L := h
/-- What Spread says of points that may not be. -/
def errPts (ps : List Pt) : Int := if okPts ps then if ps.length ≤ 256 then 0 else 3 else 7
theorem orient_Spread_bad {ps : List Pt} {v : Value} (w : World) (h : PtsAt w v ps) (hlen : ps.length ≤ 1000000) (he : errPts ps ≠ 0) :
    Calls Try.prog 24 #[v] w fun e w' => e = .returned (.tuple #[.slice none 0 0, .int .i64 (errPts ps)]) ∧ Below w.heap.size w w' := by
  have hv := h
  obtain ⟨a, c, rfl, hsl⟩ := h
  rw [List.length_map] at hv ⊢
  refine calls_of Try.func24 rfl Try.ntmps24 rfl (St.start w) (args := [.slice a ps.length c]) ?_
  refine cw_sr ?_
  refine steps_q rfl (q_assign rfl) ?_  -- orient.go:52
  refine steps_q rfl (q_assign rfl) ?_  -- orient.go:52
  refine steps_nil ?_
  refine cw_scope_jump (S := Unit) 0 (fun _ => [(3, .int .i64 (errPts ps))]) (fun _ => []) (fun _ => True) rfl ?_ fun _ _ => ?_
  case' refine_2 =>
    refine cw_seq ?_
    refine cw_skip ?_
    refine at_then ?_
    refine cw_sr ?_
    refine steps_q rfl (q_move rfl) ?_
    refine steps_q rfl (q_assign rfl) ?_
    refine steps_q rfl (q_assign rfl) ?_
    refine steps_nil ?_
    refine cw_ret ?_
    refine at_ng_ret ?_
    exact at_ret rfl (rv_tmp rfl (rv_tmp rfl rv_nil)) fun w' hw => ⟨rfl, hw.below⟩
  refine cw_sr ?_
  refine steps_s (s_allocA 4 rfl zer84 fun b4 => ?_)  -- orient.go:53
  refine steps_nil ?_
  refine cw_sr ?_
  refine steps_q rfl (q_func rfl rfl) ?_  -- orient.go:54
  refine steps_q rfl (q_assign rfl) ?_  -- orient.go:54
  refine steps_nil ?_
  refine cw_seq ?_
  refine cw_sr ?_
  refine steps_q rfl (q_move rfl) ?_  -- orient.go:55
  refine steps_q rfl (q_call ent41 rfl rfl (fun w' hw => orient_fine w' (SlAt.st hv hw) hlen)) ?_  -- orient.go:55
  refine steps_q rfl (q_not rfl rfl) ?_  -- orient.go:55
  refine steps_nil ?_
  refine cw_cond _ rfl (fun hc1 => ?_) (fun hc1 => ?_)
  · -- yes 1
    have hn : ¬ okPts ps := by simpa using hc1
    have e : errPts ps = 7 := by unfold errPts; rw [if_neg hn]
    rw [e]
    refine cw_sr ?_
    refine steps_q rfl (q_assign rfl) ?_  -- orient.go:56
    refine steps_nil ?_
    refine cw_goto ?_
    exact at_goto (Q := fun _ _ _ => True) () trivial (subs ⟨rfl, trivial⟩) (subs trivial)
  · -- no 1
    have hn : okPts ps := by simpa using hc1
    have e3 : ¬ ps.length ≤ 256 := fun hh => he (by unfold errPts; rw [if_pos hn, if_pos hh])
    have e : errPts ps = 3 := by unfold errPts; rw [if_pos hn, if_neg e3]
    rw [e]
    refine cw_skip ?_
    refine at_then ?_
    refine cw_seq ?_
    refine cw_sr ?_
    refine steps_q rfl (q_move rfl) ?_  -- orient.go:59
    refine steps_q rfl (q_lenSl Try.underlying22 rfl) ?_  -- orient.go:59
    refine steps_q rfl (q_bin rfl rfl rfl) ?_  -- orient.go:59
    refine steps_nil ?_
    refine cw_cond _ rfl (fun hc2 => ?_) (fun hc2 => ?_)
    · -- yes 2
      refine cw_sr ?_
      refine steps_q rfl (q_assign rfl) ?_  -- orient.go:60
      refine steps_nil ?_
      refine cw_goto ?_
      exact at_goto (Q := fun _ _ _ => True) () trivial (subs ⟨rfl, trivial⟩) (subs trivial)
    · have := of_decide_eq_false hc2
      omega

/-- The rank of points, or what stands against them. -/
def rankI (ps : List Pt) : Int := (sprd ps 0 [] []).2.length - 1
theorem sprd_le : ∀ (ps : List Pt) (k : Int) (qs : List Pt) (ks : List Int), ks.length ≤ 4 → qs.length = ks.length → (sprd ps k qs ks).2.length ≤ 4
  | [], _, _, _, h, _ => h
  | p :: r, k, qs, ks, h, e => by
    simp only [sprd]
    split
    · rename_i hr
      have := raises_le (by omega) hr
      exact sprd_le r _ _ _ (by simp; omega) (by simp [e])
    · exact sprd_le r _ _ _ h e
theorem orient_Rank {ps : List Pt} {v : Value} (w : World) (h : PtsAt w v ps) (hlen : ps.length ≤ 1000000) :
    Calls Try.prog 11 #[v] w fun e w' => e = .returned (.tuple #[.int .i64 (if errPts ps = 0 then rankI ps else 0), .int .i64 (errPts ps)]) ∧ Below w.heap.size w w' := by
  have hv := h
  obtain ⟨a, c, rfl, hsl⟩ := h
  rw [List.length_map] at hv ⊢
  by_cases he : errPts ps = 0
  · rw [if_pos he, he]
    have hok : okPts ps ∧ ps.length ≤ 256 := by
      unfold errPts at he
      split at he
      · split at he
        · exact ⟨‹_›, ‹_›⟩
        · omega
      · omega
    have hle := sprd_le ps 0 [] [] (by simp) rfl
    refine calls_of Try.func11 rfl Try.ntmps11 rfl (St.start w) (args := [.slice a ps.length c]) ?_
    refine cw_sr ?_
    refine steps_q rfl (q_assign rfl) ?_  -- orient.go:75
    refine steps_q rfl (q_assign rfl) ?_  -- orient.go:75
    refine steps_nil ?_
    refine cw_sr ?_
    refine steps_q rfl (q_move rfl) ?_  -- orient.go:76
    refine steps_s (s_callSt ent24 rfl rfl rfl (R := fun v Ln => ∃ a2 c2, v = .tuple #[.slice a2 (sprd ps 0 [] []).2.length c2, .int .i64 0] ∧ Ln = []) (fun w' hw => (orient_Spread_ok w' (SlAt.st hv hw) hok.1 hok.2).mono fun e w2 ⟨⟨a2, c2, he⟩, hb⟩ => ⟨_, [], he, ⟨a2, c2, rfl, rfl⟩, (St.start w').grow hb⟩) fun v Ln hR => ?_)  -- orient.go:76
    obtain ⟨a2, c2, rfl, rfl⟩ := hR
    refine steps_q rfl (q_move rfl) ?_  -- orient.go:76
    refine steps_q rfl (q_extract rfl rfl) ?_  -- orient.go:76
    refine steps_q rfl (q_extract rfl rfl) ?_  -- orient.go:76
    refine steps_q rfl (q_assign rfl) ?_  -- orient.go:76
    refine steps_q rfl (q_assign rfl) ?_  -- orient.go:76
    refine steps_nil ?_
    refine cw_seq ?_
    refine cw_sr ?_
    refine steps_q rfl (q_move rfl) ?_  -- orient.go:77
    refine steps_q rfl (q_bin rfl rfl rfl) ?_  -- orient.go:77
    refine steps_nil ?_
    refine cw_cond _ rfl (fun hc1 => ?_) (fun hc1 => ?_)
    · cases hc1
    · -- no 1
      refine cw_skip ?_
      refine at_then ?_
      refine cw_sr ?_
      refine steps_q rfl (q_move rfl) ?_  -- orient.go:80
      refine steps_q rfl (q_lenSl Try.underlying29 rfl) ?_  -- orient.go:80
      refine steps_q rfl (q_bin rfl rfl (sub64 (by omega) (by omega))) ?_  -- orient.go:80
      refine steps_q rfl (q_assign rfl) ?_  -- orient.go:80
      refine steps_q rfl (q_assign rfl) ?_  -- orient.go:80
      refine steps_nil ?_
      refine cw_ret ?_
      exact ret_pure rfl (rv_tmp rfl (rv_tmp rfl rv_nil)) rfl
  · rw [if_neg he]
    refine calls_of Try.func11 rfl Try.ntmps11 rfl (St.start w) (args := [.slice a ps.length c]) ?_
    refine cw_sr ?_
    refine steps_q rfl (q_assign rfl) ?_  -- orient.go:75
    refine steps_q rfl (q_assign rfl) ?_  -- orient.go:75
    refine steps_nil ?_
    refine cw_sr ?_
    refine steps_q rfl (q_move rfl) ?_  -- orient.go:76
    refine steps_q rfl (q_call ent24 rfl rfl (fun w' hw => orient_Spread_bad w' (SlAt.st hv hw) hlen he)) ?_  -- orient.go:76
    refine steps_q rfl (q_move rfl) ?_  -- orient.go:76
    refine steps_q rfl (q_extract rfl rfl) ?_  -- orient.go:76
    refine steps_q rfl (q_extract rfl rfl) ?_  -- orient.go:76
    refine steps_q rfl (q_assign rfl) ?_  -- orient.go:76
    refine steps_q rfl (q_assign rfl) ?_  -- orient.go:76
    refine steps_nil ?_
    refine cw_seq ?_
    refine cw_sr ?_
    refine steps_q rfl (q_move rfl) ?_  -- orient.go:77
    refine steps_q rfl (q_bin rfl rfl (congrArg (fun b => some (Value.bool b)) (show (errPts ps != 0) = true by simpa using he))) ?_  -- orient.go:77
    refine steps_nil ?_
    refine cw_cond _ rfl (fun hc1 => ?_) (fun hc1 => ?_)
    · -- yes 1
      refine cw_sr ?_
      refine steps_q rfl (q_move rfl) ?_  -- orient.go:78
      refine steps_q rfl (q_assign rfl) ?_  -- orient.go:78
      refine steps_q rfl (q_assign rfl) ?_  -- orient.go:78
      refine steps_nil ?_
      refine cw_ret ?_
      exact ret_pure rfl (rv_tmp rfl (rv_tmp rfl rv_nil)) rfl
    · cases hc1
end Go.Proofs.Ytomdahjakkifbaa

/-
  The walks of package simplex: square, Past.
-/
namespace Go.Proofs.Ytomdahjakkifbaa
open Go Go.NP Go.RowKit Go.Proofs
set_option maxRecDepth 100000

/-- 2^220: what the numbers of a nearest point keep to. -/
def Mid : Int := 1684996666696914987166688442938726917102321526408785780068975640576
def sqS (n : Sp) : Int := n.x * n.x + n.y * n.y + n.z * n.z
/-- A nearest point; its places as the program holds them. -/
structure Nr where
  n : Sp
  d : Int
  at' : Value
def Nr.l (m : Nr) : List Value := m.n.l ++ Wl m.d ++ [m.at']
theorem nr0 (m : Nr) : Part m.l 0 24 m.n.l := ⟨rfl, rfl⟩
theorem nr1 (m : Nr) : Part m.l 24 8 (Wl m.d) := ⟨rfl, rfl⟩
theorem sq_nn (x : Int) : 0 ≤ x * x := by
  rcases Int.le_total 0 x with h | h
  · exact Int.mul_nonneg h h
  · have := Int.mul_nonneg (show 0 ≤ -x by omega) (show 0 ≤ -x by omega)
    rwa [Int.neg_mul_neg] at this
theorem sq_bd {x K : Int} (h : -K ≤ x ∧ x ≤ K) : 0 ≤ x * x ∧ x * x ≤ K * K := ⟨sq_nn x, (mul_bd h h).2⟩

theorem simplex_square {n : Sp} (h : n.In Mid) : PureF Try.prog 23 [.agg n.l.toArray] (.agg (Wl (sqS n)).toArray) := by
  have fn := h.fits (by decide)
  obtain ⟨a, b, c⟩ := h
  have f : ∀ {x : Int}, -Mid ≤ x ∧ x ≤ Mid → Fits x := fun h => fits_big (by unfold Mid at h; unfold Big; omega)
  have qa := sq_bd a
  have qb := sq_bd b
  have qc := sq_bd c
  have e : Mid * Mid = 2839213766779714416208296124562517712318911565184836172974571090549372219192960637992933791850638927971728600024477257552869537611776 := by decide
  rw [e] at qa qb qc
  have fa : Fits (n.x * n.x) := fits_big (by unfold Big; omega)
  have fb : Fits (n.y * n.y) := fits_big (by unfold Big; omega)
  have fc : Fits (n.z * n.z) := fits_big (by unfold Big; omega)
  have fab : Fits (n.x * n.x + n.y * n.y) := fits_big (by unfold Big; omega)
  have fabc : Fits (n.x * n.x + n.y * n.y + n.z * n.z) := fits_big (by unfold Big; omega)
  refine pure_of Try.func23 rfl Try.ntmps23 rfl fun w => ?_
  refine cw_sr ?_
  refine steps_s (s_boxA 1 rfl rfl fun b1 => ?_)  -- simplex.go:137
  refine steps_s (s_allocA 2 rfl zer26 fun b2 => ?_)  -- simplex.go:137
  refine steps_nil ?_
  refine cw_sd mixed [0, 1, 2, 3, 4, 5, 6, 7, 8, 9, 10, 11, 12, 13, 14, 15, 16] 1 (without _ [2]) (by kernel_rfl) (sub_without _ _) ?_
  refine qi_q rfl rfl (q_field fld28_0 rfl) ?_  -- simplex.go:138
  refine qi_q rfl rfl (q_loadA 1 agg26 rfl rfl (sp0 n)) ?_  -- simplex.go:138
  refine qi_q rfl rfl (q_field fld28_0 rfl) ?_  -- simplex.go:138
  refine qi_q rfl rfl (q_loadA 1 agg26 rfl rfl (sp0 n)) ?_  -- simplex.go:138
  refine qi_q rfl rfl (q_pure ent22 rfl (simplex_times (f a) (f a) fa)) ?_  -- simplex.go:138
  refine qi_q rfl rfl (q_field fld28_1 rfl) ?_  -- simplex.go:138
  refine qi_q rfl rfl (q_loadA 1 agg26 rfl rfl (sp1 n)) ?_  -- simplex.go:138
  refine qi_q rfl rfl (q_field fld28_1 rfl) ?_  -- simplex.go:138
  refine qi_q rfl rfl (q_loadA 1 agg26 rfl rfl (sp1 n)) ?_  -- simplex.go:138
  refine qi_q rfl rfl (q_pure ent22 rfl (simplex_times (f b) (f b) fb)) ?_  -- simplex.go:138
  refine qi_q rfl rfl (q_pure ent39 rfl (simplex_plus fa fb fab)) ?_  -- simplex.go:138
  refine qi_q rfl rfl (q_field fld28_2 rfl) ?_  -- simplex.go:138
  refine qi_q rfl rfl (q_loadA 1 agg26 rfl rfl (sp2 n)) ?_  -- simplex.go:138
  refine qi_q rfl rfl (q_field fld28_2 rfl) ?_  -- simplex.go:138
  refine qi_q rfl rfl (q_loadA 1 agg26 rfl rfl (sp2 n)) ?_  -- simplex.go:138
  refine qi_q rfl rfl (q_pure ent22 rfl (simplex_times (f c) (f c) fc)) ?_  -- simplex.go:138
  refine qi_q rfl rfl (q_pure ent39 rfl (simplex_plus fab fc fabc)) ?_  -- simplex.go:138
  refine qi_nil ?_
  refine tail_one 17 (by kernel_rfl) rfl rfl (s_storeW 2 siz26 rfl rfl rfl rfl rfl rfl ⟨(subl_cons rfl (sub_without _ _)), ?_⟩)  -- simplex.go:138
  refine tail_nil (by kernel_rfl) ?_
  refine cw_ret ?_
  exact ret_pure rfl (rv_agg 2 agg26 rfl rfl rfl rv_nil) rfl
def pastB (n : Sp) (d : Int) (p : Pt) : Bool := decide (dotS n p * d < sqS n)
theorem cmpI_lt (x y : Int) : binI .lss .i64 (cmpI x y) .i64 0 = some (.bool (decide (x < y))) := by
  simp only [binI, if_true, cmpI]
  congr 2
  split
  · rename_i h; exact (decide_eq_true (by omega)).trans (decide_eq_true h).symm
  · rename_i h; split <;> exact (decide_eq_false (by omega)).trans (decide_eq_false h).symm

theorem simplex_Past {m : Nr} {p : Pt} (hn : m.n.In Mid) (hd : -Mid ≤ m.d ∧ m.d ≤ Mid) (hp : p.In P40) : PureF Try.prog 10 [.agg m.l.toArray, .agg p.l.toArray] (.bool (pastB m.n m.d p)) := by
  have hA := alFits hn hp (by decide) (by decide) (by decide)
  have hb := dotS_bd hn hp
  have hm := mul_bd hb hd
  have fd : Fits m.d := fits_big (bd_big hd (by decide))
  have fs : Fits (dotS m.n p) := fits_big (bd_big hb (by decide))
  have fm : Fits (dotS m.n p * m.d) := fits_big (bd_big hm (by decide))
  have qa := sq_bd hn.1
  have qb := sq_bd hn.2.1
  have qc := sq_bd hn.2.2
  have e : Mid * Mid = 2839213766779714416208296124562517712318911565184836172974571090549372219192960637992933791850638927971728600024477257552869537611776 := by decide
  rw [e] at qa qb qc
  have fq : Fits (sqS m.n) := fits_big (by unfold Big sqS; omega)
  refine pure_of Try.func10 rfl Try.ntmps10 rfl fun w => ?_
  refine cw_sr ?_
  refine steps_s (s_boxA 2 rfl rfl fun b2 => ?_)  -- simplex.go:142
  refine steps_s (s_boxA 3 rfl rfl fun b3 => ?_)  -- simplex.go:142
  refine steps_q rfl (q_assign rfl) ?_  -- simplex.go:142
  refine steps_nil ?_
  refine cw_sr ?_
  refine steps_q rfl (q_field fld31_0 rfl) ?_  -- simplex.go:143
  refine steps_q rfl (q_loadA 2 agg28 rfl rfl (nr0 m)) ?_  -- simplex.go:143
  refine steps_q rfl (q_loadW 3 agg38 rfl rfl rfl) ?_  -- simplex.go:143
  refine steps_q rfl (q_pure ent20 rfl (grid_Along hA)) ?_  -- simplex.go:143
  refine steps_q rfl (q_move rfl) ?_  -- simplex.go:143
  refine steps_q rfl (q_extract rfl rfl) ?_  -- simplex.go:143
  refine steps_q rfl (q_extract rfl rfl) ?_  -- simplex.go:143
  refine steps_s (s_allocA 5 rfl zer26 fun b5 => ?_)  -- simplex.go:143
  refine steps_s (s_storeW 5 siz26 rfl rfl rfl rfl rfl rfl ?_)  -- simplex.go:143
  refine steps_q rfl (q_assign rfl) ?_  -- simplex.go:143
  refine steps_nil ?_
  refine cw_sd mixed [0, 1, 2, 3, 4, 5, 6, 7, 8, 9] 0 _ (by kernel_rfl) (SubL.refl _) ?_
  refine qi_q rfl rfl (q_loadW 5 agg26 rfl rfl rfl) ?_  -- simplex.go:144
  refine qi_q rfl rfl (q_field fld31_1 rfl) ?_  -- simplex.go:144
  refine qi_q rfl rfl (q_loadA 2 agg26 rfl rfl (nr1 m)) ?_  -- simplex.go:144
  refine qi_q rfl rfl (q_pure ent22 rfl (simplex_times fs fd fm)) ?_  -- simplex.go:144
  refine qi_q rfl rfl (q_field fld31_0 rfl) ?_  -- simplex.go:144
  refine qi_q rfl rfl (q_loadA 2 agg28 rfl rfl (nr0 m)) ?_  -- simplex.go:144
  refine qi_q rfl rfl (q_pure ent23 rfl (simplex_square hn)) ?_  -- simplex.go:144
  refine qi_q rfl rfl (q_pure ent21 rfl (wide_Cmp _ _ fm fq)) ?_  -- simplex.go:144
  refine qi_q rfl rfl (q_bin rfl rfl (cmpI_lt _ _)) ?_  -- simplex.go:144
  refine qi_q rfl rfl (q_assign rfl) ?_  -- simplex.go:144
  refine qi_nil ?_
  refine tail_nil (by kernel_rfl) ?_
  refine cw_ret ?_
  exact ret_pure rfl (rv_tmp rfl rv_nil) rfl
end Go.Proofs.Ytomdahjakkifbaa

/-
  Two fractions, by their whole parts and what is left.
-/
namespace Go.NP
open Go Go.RowKit
def cmp3 (x y : Int) : Int := if x < y then -1 else if x = y then 0 else 1
theorem cmp3_lt {x y : Int} (h : x < y) : cmp3 x y = -1 := if_pos h
theorem cmp3_eq {x y : Int} (h : x = y) : cmp3 x y = 0 := by unfold cmp3; rw [if_neg (by omega), if_pos h]
theorem cmp3_gt {x y : Int} (h : y < x) : cmp3 x y = 1 := by unfold cmp3; rw [if_neg (by omega), if_neg (by omega)]
theorem cmp3_neg (x y : Int) : cmp3 y x = -cmp3 x y := by unfold cmp3; split <;> split <;> (try split) <;> (try split) <;> omega
/-- The whole parts are not alike. -/
theorem frac_whole {x y p q : Int} (hp : 0 < p) (hq : 0 < q) (h : x / p ≠ y / q) : cmp3 (x * q) (y * p) = cmp3 (x / p) (y / q) := by
  have e1 := Int.mul_ediv_add_emod x p
  have e2 := Int.mul_ediv_add_emod y q
  have r0 := Int.emod_nonneg x (by omega : p ≠ 0)
  have r1 := Int.emod_lt_of_pos x hp
  have s0 := Int.emod_nonneg y (by omega : q ≠ 0)
  have s1 := Int.emod_lt_of_pos y hq
  generalize x / p = i at *
  generalize y / q = k at *
  generalize x % p = r at *
  generalize y % q = s at *
  have t1 : r * q < p * q := Int.mul_lt_mul_of_pos_right r1 hq
  have t2 : s * p < q * p := Int.mul_lt_mul_of_pos_right s1 hp
  have t3 : 0 ≤ r * q := Int.mul_nonneg r0 (by omega)
  have t4 : 0 ≤ s * p := Int.mul_nonneg s0 (by omega)
  have hpq : 0 < p * q := Int.mul_pos hp hq
  have c : q * p = p * q := Int.mul_comm q p
  have ex : x * q = i * (p * q) + r * q := by rw [← e1]; grind
  have ey : y * p = k * (p * q) + s * p := by rw [← e2]; grind
  rcases Int.lt_or_gt_of_ne h with hl | hl
  · rw [cmp3_lt hl, cmp3_lt]
    have : (i + 1) * (p * q) ≤ k * (p * q) := Int.mul_le_mul_of_nonneg_right (by omega) (Int.le_of_lt hpq)
    rw [Int.add_mul, Int.one_mul] at this
    omega
  · rw [cmp3_gt hl, cmp3_gt]
    have : (k + 1) * (p * q) ≤ i * (p * q) := Int.mul_le_mul_of_nonneg_right (by omega) (Int.le_of_lt hpq)
    rw [Int.add_mul, Int.one_mul] at this
    omega
/-- They are alike: what is left, turned over. -/
theorem frac_rest {x y p q : Int} (h : x / p = y / q) : cmp3 (x * q) (y * p) = cmp3 (x % p * q) (y % q * p) := by
  have e1 := Int.mul_ediv_add_emod x p
  have e2 := Int.mul_ediv_add_emod y q
  rw [h] at e1
  have ex : x * q = y / q * (p * q) + x % p * q := by conv => lhs; rw [← e1]
                                                      grind
  have ey : y * p = y / q * (p * q) + y % q * p := by conv => lhs; rw [← e2]
                                                      grind
  rw [ex, ey]
  unfold cmp3
  split <;> split <;> (try split) <;> (try split) <;> omega
end Go.NP

/-
  The walks of package simplex: Cmp.
-/
namespace Go.Proofs.Ytomdahjakkifbaa
open Go Go.NP Go.RowKit Go.Proofs
set_option maxRecDepth 100000

theorem cmp3_I (x y : Int) : cmp3 x y = cmpI x y := rfl
/-- Which of two is nearer. -/
def nearI (a b : Nr) : Int := cmp3 (sqS a.n * (b.d * b.d)) (sqS b.n * (a.d * a.d))
structure CmI (G x y p q t : Int) : Prop where
  x0 : 0 ≤ x
  x1 : x ≤ Big
  y0 : 0 ≤ y
  y1 : y ≤ Big
  p0 : 0 < p
  p1 : p ≤ Big
  q0 : 0 < q
  q1 : q ≤ Big
  t1 : t = 1 ∨ t = -1
  g : G = t * cmp3 (x * q) (y * p)
theorem sgn_is {x : Int} (h : x = 0) : binI .eql .i64 (sgnI x) .i64 0 = some (.bool true) := by subst h; rfl
theorem sgn_isnt {x : Int} (h : ¬ x = 0) : binI .eql .i64 (sgnI x) .i64 0 = some (.bool false) := by
  have := sgnI_ne x
  simp only [h, decide_false, Bool.not_false] at this
  simp only [binI, if_true]
  rw [show (sgnI x == 0) = false by simpa using this]
theorem fits_pos {x : Int} (h0 : 0 ≤ x) (h1 : x ≤ Big) : Fits x := fits_big (by unfold Big at *; omega)
theorem sq_in {n : Sp} (h : n.In Mid) : 0 ≤ sqS n ∧ sqS n ≤ Big := by
  have qa := sq_bd h.1
  have qb := sq_bd h.2.1
  have qc := sq_bd h.2.2
  have e : Mid * Mid = 2839213766779714416208296124562517712318911565184836172974571090549372219192960637992933791850638927971728600024477257552869537611776 := by decide
  rw [e] at qa qb qc
  unfold sqS Big; omega
theorem d_in {d : Int} (h0 : 0 < d) (h1 : d ≤ Mid) : 0 < d * d ∧ d * d ≤ Big := by
  have e : Mid * Mid ≤ Big := by decide
  have := (mul_bd (A := Mid) (C := Mid) (a := d) (b := d) ⟨by omega, h1⟩ ⟨by omega, h1⟩).2
  exact ⟨Int.mul_pos h0 h0, by omega⟩

set_option maxHeartbeats 4000000 in
theorem simplex_Cmp {a b : Nr} (ha : a.n.In Mid) (hb : b.n.In Mid) (da : 0 < a.d ∧ a.d ≤ Mid) (db : 0 < b.d ∧ b.d ≤ Mid) : PureF Try.prog 15 [.agg a.l.toArray, .agg b.l.toArray] (.int .i64 (nearI a b)) := by
  have sa := sq_in ha
  have sb := sq_in hb
  have ea := d_in da.1 da.2
  have eb := d_in db.1 db.2
  have fa : Fits a.d := fits_big (by have h := da; unfold Mid at h; unfold Big; omega)
  have fb : Fits b.d := fits_big (by have h := db; unfold Mid at h; unfold Big; omega)
  refine pure_of Try.func15 rfl Try.ntmps15 rfl fun w => ?_
  refine cw_sr ?_
  refine steps_s (s_boxA 2 rfl rfl fun b2 => ?_)  -- simplex.go:148
  refine steps_s (s_boxA 3 rfl rfl fun b3 => ?_)  -- simplex.go:148
  refine steps_q rfl (q_assign rfl) ?_  -- simplex.go:148
  refine steps_nil ?_
  refine cw_join (S := Nat × Nat × Nat × Nat) (fun (b5, b6, b7, b8) => [(5, .pointer (some ⟨b5, 0, none⟩)), (6, .pointer (some ⟨b6, 0, none⟩)), (7, .pointer (some ⟨b7, 0, none⟩)), (8, .pointer (some ⟨b8, 0, none⟩))]) (fun (b5, b6, b7, b8) => [(5, (b5, .cells (Wl (sqS a.n)).toArray 26 (0, 0))), (6, (b6, .cells (Wl (sqS b.n)).toArray 26 (0, 0))), (7, (b7, .cells (Wl (a.d * a.d)).toArray 26 (0, 0))), (8, (b8, .cells (Wl (b.d * b.d)).toArray 26 (0, 0)))]) (fun (b5, b6, b7, b8) => True) ?_ ?_
  · -- the orders of region 1
    refine cw_draw mixed [0, 1, 2, 3, 4, 5, 6, 7, 8, 9, 10, 11, 12, 13, 14, 15] 8 (without _ [5, 6, 7, 8]) (by kernel_rfl) (sub_without _ _) ?_
    refine qi_q rfl rfl (q_field fld31_0 rfl) ?_  -- simplex.go:149
    refine qi_q rfl rfl (q_loadA 2 agg28 rfl rfl (nr0 a)) ?_  -- simplex.go:149
    refine qi_q rfl rfl (q_pure ent23 rfl (simplex_square ha)) ?_  -- simplex.go:149
    refine qi_q rfl rfl (q_field fld31_0 rfl) ?_  -- simplex.go:149
    refine qi_q rfl rfl (q_loadA 3 agg28 rfl rfl (nr0 b)) ?_  -- simplex.go:149
    refine qi_q rfl rfl (q_pure ent23 rfl (simplex_square hb)) ?_  -- simplex.go:149
    refine qi_q rfl rfl (q_field fld31_1 rfl) ?_  -- simplex.go:149
    refine qi_q rfl rfl (q_loadA 2 agg26 rfl rfl (nr1 a)) ?_  -- simplex.go:149
    refine qi_q rfl rfl (q_field fld31_1 rfl) ?_  -- simplex.go:149
    refine qi_q rfl rfl (q_loadA 2 agg26 rfl rfl (nr1 a)) ?_  -- simplex.go:149
    refine qi_q rfl rfl (q_pure ent22 rfl (simplex_times fa fa (fits_pos (by omega) ea.2))) ?_  -- simplex.go:149
    refine qi_q rfl rfl (q_field fld31_1 rfl) ?_  -- simplex.go:149
    refine qi_q rfl rfl (q_loadA 3 agg26 rfl rfl (nr1 b)) ?_  -- simplex.go:149
    refine qi_q rfl rfl (q_field fld31_1 rfl) ?_  -- simplex.go:149
    refine qi_q rfl rfl (q_loadA 3 agg26 rfl rfl (nr1 b)) ?_  -- simplex.go:149
    refine qi_q rfl rfl (q_pure ent22 rfl (simplex_times fb fb (fits_pos (by omega) eb.2))) ?_  -- simplex.go:149
    refine qi_nil ?_
    refine tail_cons [16, 17, 18, 19] (by kernel_rfl) ⟨⟨_, rfl, rfl, ?_⟩, ⟨_, rfl, rfl, ?_⟩, ⟨_, rfl, rfl, ?_⟩, ⟨_, rfl, rfl, ?_⟩, trivial⟩
    · refine s_allocA 5 rfl zer26 fun b5 => ⟨(subl_cons rfl (sub_without _ _)), ?_⟩
      refine tail_cons [17, 18, 19] (by kernel_rfl) ⟨⟨_, rfl, rfl, ?_⟩, ⟨_, rfl, rfl, ?_⟩, ⟨_, rfl, rfl, ?_⟩, trivial⟩
      · refine s_allocA 6 rfl zer26 fun b6 => ⟨(subl_cons rfl (subl_cons rfl (sub_without _ _))), ?_⟩
        refine tail_alloc2 18 19 (by kernel_rfl) rfl rfl zer26 rfl zer26 rfl (subl_cons rfl (subl_cons rfl (sub_without _ _))) rfl rfl (fun h => At.weaken h) fun b7 b8 => ?_
        refine tail_one 20 (by kernel_rfl) rfl rfl (s_storeW 5 siz26 rfl rfl rfl rfl rfl rfl ⟨(subl_cons rfl (subl_cons rfl (subl_cons rfl (subl_cons rfl (subl_cons rfl (sub_without _ _)))))), ?_⟩)  -- simplex.go:149
        refine tail_one 21 (by kernel_rfl) rfl rfl (s_storeW 6 siz26 rfl rfl rfl rfl rfl rfl ⟨(subl_cons rfl (subl_cons rfl (subl_cons rfl (subl_cons rfl (subl_cons rfl (subl_cons rfl (sub_without _ _))))))), ?_⟩)  -- simplex.go:149
        refine tail_one 22 (by kernel_rfl) rfl rfl (s_storeW 7 siz26 rfl rfl rfl rfl rfl rfl ⟨(subl_cons rfl (subl_cons rfl (subl_cons rfl (subl_cons rfl (subl_cons rfl (subl_cons rfl (subl_cons rfl (sub_without _ _)))))))), ?_⟩)  -- simplex.go:149
        refine tail_one 23 (by kernel_rfl) rfl rfl (s_storeW 8 siz26 rfl rfl rfl rfl rfl rfl ⟨(subl_cons rfl (subl_cons rfl (subl_cons rfl (subl_cons rfl (subl_cons rfl (subl_cons rfl (subl_cons rfl (subl_cons rfl (sub_without _ _))))))))), ?_⟩)  -- simplex.go:149
        refine tail_nil (by kernel_rfl) ?_
        exact at_join (b5, b6, b7, b8) (trivial) (subs ⟨rfl, rfl, rfl, rfl, trivial⟩) (subs ⟨rfl, rfl, rfl, rfl, trivial⟩)
      · refine s_allocA 7 rfl zer26 fun b7 => ⟨(subl_cons rfl (subl_cons rfl (sub_without _ _))), ?_⟩
        refine tail_alloc2 17 19 (by kernel_rfl) rfl rfl zer26 rfl zer26 rfl (subl_cons rfl (subl_cons rfl (sub_without _ _))) rfl rfl (fun h => At.weaken h) fun b6 b8 => ?_
        refine tail_one 20 (by kernel_rfl) rfl rfl (s_storeW 5 siz26 rfl rfl rfl rfl rfl rfl ⟨(subl_cons rfl (subl_cons rfl (subl_cons rfl (subl_cons rfl (subl_cons rfl (sub_without _ _)))))), ?_⟩)  -- simplex.go:149
        refine tail_one 21 (by kernel_rfl) rfl rfl (s_storeW 6 siz26 rfl rfl rfl rfl rfl rfl ⟨(subl_cons rfl (subl_cons rfl (subl_cons rfl (subl_cons rfl (subl_cons rfl (subl_cons rfl (sub_without _ _))))))), ?_⟩)  -- simplex.go:149
        refine tail_one 22 (by kernel_rfl) rfl rfl (s_storeW 7 siz26 rfl rfl rfl rfl rfl rfl ⟨(subl_cons rfl (subl_cons rfl (subl_cons rfl (subl_cons rfl (subl_cons rfl (subl_cons rfl (subl_cons rfl (sub_without _ _)))))))), ?_⟩)  -- simplex.go:149
        refine tail_one 23 (by kernel_rfl) rfl rfl (s_storeW 8 siz26 rfl rfl rfl rfl rfl rfl ⟨(subl_cons rfl (subl_cons rfl (subl_cons rfl (subl_cons rfl (subl_cons rfl (subl_cons rfl (subl_cons rfl (subl_cons rfl (sub_without _ _))))))))), ?_⟩)  -- simplex.go:149
        refine tail_nil (by kernel_rfl) ?_
        exact at_join (b5, b6, b7, b8) (trivial) (subs ⟨rfl, rfl, rfl, rfl, trivial⟩) (subs ⟨rfl, rfl, rfl, rfl, trivial⟩)
      · refine s_allocA 8 rfl zer26 fun b8 => ⟨(subl_cons rfl (subl_cons rfl (sub_without _ _))), ?_⟩
        refine tail_alloc2 17 18 (by kernel_rfl) rfl rfl zer26 rfl zer26 rfl (subl_cons rfl (subl_cons rfl (sub_without _ _))) rfl rfl (fun h => At.weaken h) fun b6 b7 => ?_
        refine tail_one 20 (by kernel_rfl) rfl rfl (s_storeW 5 siz26 rfl rfl rfl rfl rfl rfl ⟨(subl_cons rfl (subl_cons rfl (subl_cons rfl (subl_cons rfl (subl_cons rfl (sub_without _ _)))))), ?_⟩)  -- simplex.go:149
        refine tail_one 21 (by kernel_rfl) rfl rfl (s_storeW 6 siz26 rfl rfl rfl rfl rfl rfl ⟨(subl_cons rfl (subl_cons rfl (subl_cons rfl (subl_cons rfl (subl_cons rfl (subl_cons rfl (sub_without _ _))))))), ?_⟩)  -- simplex.go:149
        refine tail_one 22 (by kernel_rfl) rfl rfl (s_storeW 7 siz26 rfl rfl rfl rfl rfl rfl ⟨(subl_cons rfl (subl_cons rfl (subl_cons rfl (subl_cons rfl (subl_cons rfl (subl_cons rfl (subl_cons rfl (sub_without _ _)))))))), ?_⟩)  -- simplex.go:149
        refine tail_one 23 (by kernel_rfl) rfl rfl (s_storeW 8 siz26 rfl rfl rfl rfl rfl rfl ⟨(subl_cons rfl (subl_cons rfl (subl_cons rfl (subl_cons rfl (subl_cons rfl (subl_cons rfl (subl_cons rfl (subl_cons rfl (sub_without _ _))))))))), ?_⟩)  -- simplex.go:149
        refine tail_nil (by kernel_rfl) ?_
        exact at_join (b5, b6, b7, b8) (trivial) (subs ⟨rfl, rfl, rfl, rfl, trivial⟩) (subs ⟨rfl, rfl, rfl, rfl, trivial⟩)
    · refine s_allocA 6 rfl zer26 fun b6 => ⟨(subl_cons rfl (sub_without _ _)), ?_⟩
      refine tail_cons [16, 18, 19] (by kernel_rfl) ⟨⟨_, rfl, rfl, ?_⟩, ⟨_, rfl, rfl, ?_⟩, ⟨_, rfl, rfl, ?_⟩, trivial⟩
      · refine s_allocA 5 rfl zer26 fun b5 => ⟨(subl_cons rfl (subl_cons rfl (sub_without _ _))), ?_⟩
        refine tail_alloc2 18 19 (by kernel_rfl) rfl rfl zer26 rfl zer26 rfl (subl_cons rfl (subl_cons rfl (sub_without _ _))) rfl rfl (fun h => At.weaken h) fun b7 b8 => ?_
        refine tail_one 20 (by kernel_rfl) rfl rfl (s_storeW 5 siz26 rfl rfl rfl rfl rfl rfl ⟨(subl_cons rfl (subl_cons rfl (subl_cons rfl (subl_cons rfl (subl_cons rfl (sub_without _ _)))))), ?_⟩)  -- simplex.go:149
        refine tail_one 21 (by kernel_rfl) rfl rfl (s_storeW 6 siz26 rfl rfl rfl rfl rfl rfl ⟨(subl_cons rfl (subl_cons rfl (subl_cons rfl (subl_cons rfl (subl_cons rfl (subl_cons rfl (sub_without _ _))))))), ?_⟩)  -- simplex.go:149
        refine tail_one 22 (by kernel_rfl) rfl rfl (s_storeW 7 siz26 rfl rfl rfl rfl rfl rfl ⟨(subl_cons rfl (subl_cons rfl (subl_cons rfl (subl_cons rfl (subl_cons rfl (subl_cons rfl (subl_cons rfl (sub_without _ _)))))))), ?_⟩)  -- simplex.go:149
        refine tail_one 23 (by kernel_rfl) rfl rfl (s_storeW 8 siz26 rfl rfl rfl rfl rfl rfl ⟨(subl_cons rfl (subl_cons rfl (subl_cons rfl (subl_cons rfl (subl_cons rfl (subl_cons rfl (subl_cons rfl (subl_cons rfl (sub_without _ _))))))))), ?_⟩)  -- simplex.go:149
        refine tail_nil (by kernel_rfl) ?_
        exact at_join (b5, b6, b7, b8) (trivial) (subs ⟨rfl, rfl, rfl, rfl, trivial⟩) (subs ⟨rfl, rfl, rfl, rfl, trivial⟩)
      · refine s_allocA 7 rfl zer26 fun b7 => ⟨(subl_cons rfl (subl_cons rfl (sub_without _ _))), ?_⟩
        refine tail_alloc2 16 19 (by kernel_rfl) rfl rfl zer26 rfl zer26 rfl (subl_cons rfl (subl_cons rfl (sub_without _ _))) rfl rfl (fun h => At.weaken h) fun b5 b8 => ?_
        refine tail_one 20 (by kernel_rfl) rfl rfl (s_storeW 5 siz26 rfl rfl rfl rfl rfl rfl ⟨(subl_cons rfl (subl_cons rfl (subl_cons rfl (subl_cons rfl (subl_cons rfl (sub_without _ _)))))), ?_⟩)  -- simplex.go:149
        refine tail_one 21 (by kernel_rfl) rfl rfl (s_storeW 6 siz26 rfl rfl rfl rfl rfl rfl ⟨(subl_cons rfl (subl_cons rfl (subl_cons rfl (subl_cons rfl (subl_cons rfl (subl_cons rfl (sub_without _ _))))))), ?_⟩)  -- simplex.go:149
        refine tail_one 22 (by kernel_rfl) rfl rfl (s_storeW 7 siz26 rfl rfl rfl rfl rfl rfl ⟨(subl_cons rfl (subl_cons rfl (subl_cons rfl (subl_cons rfl (subl_cons rfl (subl_cons rfl (subl_cons rfl (sub_without _ _)))))))), ?_⟩)  -- simplex.go:149
        refine tail_one 23 (by kernel_rfl) rfl rfl (s_storeW 8 siz26 rfl rfl rfl rfl rfl rfl ⟨(subl_cons rfl (subl_cons rfl (subl_cons rfl (subl_cons rfl (subl_cons rfl (subl_cons rfl (subl_cons rfl (subl_cons rfl (sub_without _ _))))))))), ?_⟩)  -- simplex.go:149
        refine tail_nil (by kernel_rfl) ?_
        exact at_join (b5, b6, b7, b8) (trivial) (subs ⟨rfl, rfl, rfl, rfl, trivial⟩) (subs ⟨rfl, rfl, rfl, rfl, trivial⟩)
      · refine s_allocA 8 rfl zer26 fun b8 => ⟨(subl_cons rfl (subl_cons rfl (sub_without _ _))), ?_⟩
        refine tail_alloc2 16 18 (by kernel_rfl) rfl rfl zer26 rfl zer26 rfl (subl_cons rfl (subl_cons rfl (sub_without _ _))) rfl rfl (fun h => At.weaken h) fun b5 b7 => ?_
        refine tail_one 20 (by kernel_rfl) rfl rfl (s_storeW 5 siz26 rfl rfl rfl rfl rfl rfl ⟨(subl_cons rfl (subl_cons rfl (subl_cons rfl (subl_cons rfl (subl_cons rfl (sub_without _ _)))))), ?_⟩)  -- simplex.go:149
        refine tail_one 21 (by kernel_rfl) rfl rfl (s_storeW 6 siz26 rfl rfl rfl rfl rfl rfl ⟨(subl_cons rfl (subl_cons rfl (subl_cons rfl (subl_cons rfl (subl_cons rfl (subl_cons rfl (sub_without _ _))))))), ?_⟩)  -- simplex.go:149
        refine tail_one 22 (by kernel_rfl) rfl rfl (s_storeW 7 siz26 rfl rfl rfl rfl rfl rfl ⟨(subl_cons rfl (subl_cons rfl (subl_cons rfl (subl_cons rfl (subl_cons rfl (subl_cons rfl (subl_cons rfl (sub_without _ _)))))))), ?_⟩)  -- simplex.go:149
        refine tail_one 23 (by kernel_rfl) rfl rfl (s_storeW 8 siz26 rfl rfl rfl rfl rfl rfl ⟨(subl_cons rfl (subl_cons rfl (subl_cons rfl (subl_cons rfl (subl_cons rfl (subl_cons rfl (subl_cons rfl (subl_cons rfl (sub_without _ _))))))))), ?_⟩)  -- simplex.go:149
        refine tail_nil (by kernel_rfl) ?_
        exact at_join (b5, b6, b7, b8) (trivial) (subs ⟨rfl, rfl, rfl, rfl, trivial⟩) (subs ⟨rfl, rfl, rfl, rfl, trivial⟩)
    · refine s_allocA 7 rfl zer26 fun b7 => ⟨(subl_cons rfl (sub_without _ _)), ?_⟩
      refine tail_cons [16, 17, 19] (by kernel_rfl) ⟨⟨_, rfl, rfl, ?_⟩, ⟨_, rfl, rfl, ?_⟩, ⟨_, rfl, rfl, ?_⟩, trivial⟩
      · refine s_allocA 5 rfl zer26 fun b5 => ⟨(subl_cons rfl (subl_cons rfl (sub_without _ _))), ?_⟩
        refine tail_alloc2 17 19 (by kernel_rfl) rfl rfl zer26 rfl zer26 rfl (subl_cons rfl (subl_cons rfl (sub_without _ _))) rfl rfl (fun h => At.weaken h) fun b6 b8 => ?_
        refine tail_one 20 (by kernel_rfl) rfl rfl (s_storeW 5 siz26 rfl rfl rfl rfl rfl rfl ⟨(subl_cons rfl (subl_cons rfl (subl_cons rfl (subl_cons rfl (subl_cons rfl (sub_without _ _)))))), ?_⟩)  -- simplex.go:149
        refine tail_one 21 (by kernel_rfl) rfl rfl (s_storeW 6 siz26 rfl rfl rfl rfl rfl rfl ⟨(subl_cons rfl (subl_cons rfl (subl_cons rfl (subl_cons rfl (subl_cons rfl (subl_cons rfl (sub_without _ _))))))), ?_⟩)  -- simplex.go:149
        refine tail_one 22 (by kernel_rfl) rfl rfl (s_storeW 7 siz26 rfl rfl rfl rfl rfl rfl ⟨(subl_cons rfl (subl_cons rfl (subl_cons rfl (subl_cons rfl (subl_cons rfl (subl_cons rfl (subl_cons rfl (sub_without _ _)))))))), ?_⟩)  -- simplex.go:149
        refine tail_one 23 (by kernel_rfl) rfl rfl (s_storeW 8 siz26 rfl rfl rfl rfl rfl rfl ⟨(subl_cons rfl (subl_cons rfl (subl_cons rfl (subl_cons rfl (subl_cons rfl (subl_cons rfl (subl_cons rfl (subl_cons rfl (sub_without _ _))))))))), ?_⟩)  -- simplex.go:149
        refine tail_nil (by kernel_rfl) ?_
        exact at_join (b5, b6, b7, b8) (trivial) (subs ⟨rfl, rfl, rfl, rfl, trivial⟩) (subs ⟨rfl, rfl, rfl, rfl, trivial⟩)
      · refine s_allocA 6 rfl zer26 fun b6 => ⟨(subl_cons rfl (subl_cons rfl (sub_without _ _))), ?_⟩
        refine tail_alloc2 16 19 (by kernel_rfl) rfl rfl zer26 rfl zer26 rfl (subl_cons rfl (subl_cons rfl (sub_without _ _))) rfl rfl (fun h => At.weaken h) fun b5 b8 => ?_
        refine tail_one 20 (by kernel_rfl) rfl rfl (s_storeW 5 siz26 rfl rfl rfl rfl rfl rfl ⟨(subl_cons rfl (subl_cons rfl (subl_cons rfl (subl_cons rfl (subl_cons rfl (sub_without _ _)))))), ?_⟩)  -- simplex.go:149
        refine tail_one 21 (by kernel_rfl) rfl rfl (s_storeW 6 siz26 rfl rfl rfl rfl rfl rfl ⟨(subl_cons rfl (subl_cons rfl (subl_cons rfl (subl_cons rfl (subl_cons rfl (subl_cons rfl (sub_without _ _))))))), ?_⟩)  -- simplex.go:149
        refine tail_one 22 (by kernel_rfl) rfl rfl (s_storeW 7 siz26 rfl rfl rfl rfl rfl rfl ⟨(subl_cons rfl (subl_cons rfl (subl_cons rfl (subl_cons rfl (subl_cons rfl (subl_cons rfl (subl_cons rfl (sub_without _ _)))))))), ?_⟩)  -- simplex.go:149
        refine tail_one 23 (by kernel_rfl) rfl rfl (s_storeW 8 siz26 rfl rfl rfl rfl rfl rfl ⟨(subl_cons rfl (subl_cons rfl (subl_cons rfl (subl_cons rfl (subl_cons rfl (subl_cons rfl (subl_cons rfl (subl_cons rfl (sub_without _ _))))))))), ?_⟩)  -- simplex.go:149
        refine tail_nil (by kernel_rfl) ?_
        exact at_join (b5, b6, b7, b8) (trivial) (subs ⟨rfl, rfl, rfl, rfl, trivial⟩) (subs ⟨rfl, rfl, rfl, rfl, trivial⟩)
      · refine s_allocA 8 rfl zer26 fun b8 => ⟨(subl_cons rfl (subl_cons rfl (sub_without _ _))), ?_⟩
        refine tail_alloc2 16 17 (by kernel_rfl) rfl rfl zer26 rfl zer26 rfl (subl_cons rfl (subl_cons rfl (sub_without _ _))) rfl rfl (fun h => At.weaken h) fun b5 b6 => ?_
        refine tail_one 20 (by kernel_rfl) rfl rfl (s_storeW 5 siz26 rfl rfl rfl rfl rfl rfl ⟨(subl_cons rfl (subl_cons rfl (subl_cons rfl (subl_cons rfl (subl_cons rfl (sub_without _ _)))))), ?_⟩)  -- simplex.go:149
        refine tail_one 21 (by kernel_rfl) rfl rfl (s_storeW 6 siz26 rfl rfl rfl rfl rfl rfl ⟨(subl_cons rfl (subl_cons rfl (subl_cons rfl (subl_cons rfl (subl_cons rfl (subl_cons rfl (sub_without _ _))))))), ?_⟩)  -- simplex.go:149
        refine tail_one 22 (by kernel_rfl) rfl rfl (s_storeW 7 siz26 rfl rfl rfl rfl rfl rfl ⟨(subl_cons rfl (subl_cons rfl (subl_cons rfl (subl_cons rfl (subl_cons rfl (subl_cons rfl (subl_cons rfl (sub_without _ _)))))))), ?_⟩)  -- simplex.go:149
        refine tail_one 23 (by kernel_rfl) rfl rfl (s_storeW 8 siz26 rfl rfl rfl rfl rfl rfl ⟨(subl_cons rfl (subl_cons rfl (subl_cons rfl (subl_cons rfl (subl_cons rfl (subl_cons rfl (subl_cons rfl (subl_cons rfl (sub_without _ _))))))))), ?_⟩)  -- simplex.go:149
        refine tail_nil (by kernel_rfl) ?_
        exact at_join (b5, b6, b7, b8) (trivial) (subs ⟨rfl, rfl, rfl, rfl, trivial⟩) (subs ⟨rfl, rfl, rfl, rfl, trivial⟩)
    · refine s_allocA 8 rfl zer26 fun b8 => ⟨(subl_cons rfl (sub_without _ _)), ?_⟩
      refine tail_cons [16, 17, 18] (by kernel_rfl) ⟨⟨_, rfl, rfl, ?_⟩, ⟨_, rfl, rfl, ?_⟩, ⟨_, rfl, rfl, ?_⟩, trivial⟩
      · refine s_allocA 5 rfl zer26 fun b5 => ⟨(subl_cons rfl (subl_cons rfl (sub_without _ _))), ?_⟩
        refine tail_alloc2 17 18 (by kernel_rfl) rfl rfl zer26 rfl zer26 rfl (subl_cons rfl (subl_cons rfl (sub_without _ _))) rfl rfl (fun h => At.weaken h) fun b6 b7 => ?_
        refine tail_one 20 (by kernel_rfl) rfl rfl (s_storeW 5 siz26 rfl rfl rfl rfl rfl rfl ⟨(subl_cons rfl (subl_cons rfl (subl_cons rfl (subl_cons rfl (subl_cons rfl (sub_without _ _)))))), ?_⟩)  -- simplex.go:149
        refine tail_one 21 (by kernel_rfl) rfl rfl (s_storeW 6 siz26 rfl rfl rfl rfl rfl rfl ⟨(subl_cons rfl (subl_cons rfl (subl_cons rfl (subl_cons rfl (subl_cons rfl (subl_cons rfl (sub_without _ _))))))), ?_⟩)  -- simplex.go:149
        refine tail_one 22 (by kernel_rfl) rfl rfl (s_storeW 7 siz26 rfl rfl rfl rfl rfl rfl ⟨(subl_cons rfl (subl_cons rfl (subl_cons rfl (subl_cons rfl (subl_cons rfl (subl_cons rfl (subl_cons rfl (sub_without _ _)))))))), ?_⟩)  -- simplex.go:149
        refine tail_one 23 (by kernel_rfl) rfl rfl (s_storeW 8 siz26 rfl rfl rfl rfl rfl rfl ⟨(subl_cons rfl (subl_cons rfl (subl_cons rfl (subl_cons rfl (subl_cons rfl (subl_cons rfl (subl_cons rfl (subl_cons rfl (sub_without _ _))))))))), ?_⟩)  -- simplex.go:149
        refine tail_nil (by kernel_rfl) ?_
        exact at_join (b5, b6, b7, b8) (trivial) (subs ⟨rfl, rfl, rfl, rfl, trivial⟩) (subs ⟨rfl, rfl, rfl, rfl, trivial⟩)
      · refine s_allocA 6 rfl zer26 fun b6 => ⟨(subl_cons rfl (subl_cons rfl (sub_without _ _))), ?_⟩
        refine tail_alloc2 16 18 (by kernel_rfl) rfl rfl zer26 rfl zer26 rfl (subl_cons rfl (subl_cons rfl (sub_without _ _))) rfl rfl (fun h => At.weaken h) fun b5 b7 => ?_
        refine tail_one 20 (by kernel_rfl) rfl rfl (s_storeW 5 siz26 rfl rfl rfl rfl rfl rfl ⟨(subl_cons rfl (subl_cons rfl (subl_cons rfl (subl_cons rfl (subl_cons rfl (sub_without _ _)))))), ?_⟩)  -- simplex.go:149
        refine tail_one 21 (by kernel_rfl) rfl rfl (s_storeW 6 siz26 rfl rfl rfl rfl rfl rfl ⟨(subl_cons rfl (subl_cons rfl (subl_cons rfl (subl_cons rfl (subl_cons rfl (subl_cons rfl (sub_without _ _))))))), ?_⟩)  -- simplex.go:149
        refine tail_one 22 (by kernel_rfl) rfl rfl (s_storeW 7 siz26 rfl rfl rfl rfl rfl rfl ⟨(subl_cons rfl (subl_cons rfl (subl_cons rfl (subl_cons rfl (subl_cons rfl (subl_cons rfl (subl_cons rfl (sub_without _ _)))))))), ?_⟩)  -- simplex.go:149
        refine tail_one 23 (by kernel_rfl) rfl rfl (s_storeW 8 siz26 rfl rfl rfl rfl rfl rfl ⟨(subl_cons rfl (subl_cons rfl (subl_cons rfl (subl_cons rfl (subl_cons rfl (subl_cons rfl (subl_cons rfl (subl_cons rfl (sub_without _ _))))))))), ?_⟩)  -- simplex.go:149
        refine tail_nil (by kernel_rfl) ?_
        exact at_join (b5, b6, b7, b8) (trivial) (subs ⟨rfl, rfl, rfl, rfl, trivial⟩) (subs ⟨rfl, rfl, rfl, rfl, trivial⟩)
      · refine s_allocA 7 rfl zer26 fun b7 => ⟨(subl_cons rfl (subl_cons rfl (sub_without _ _))), ?_⟩
        refine tail_alloc2 16 17 (by kernel_rfl) rfl rfl zer26 rfl zer26 rfl (subl_cons rfl (subl_cons rfl (sub_without _ _))) rfl rfl (fun h => At.weaken h) fun b5 b6 => ?_
        refine tail_one 20 (by kernel_rfl) rfl rfl (s_storeW 5 siz26 rfl rfl rfl rfl rfl rfl ⟨(subl_cons rfl (subl_cons rfl (subl_cons rfl (subl_cons rfl (subl_cons rfl (sub_without _ _)))))), ?_⟩)  -- simplex.go:149
        refine tail_one 21 (by kernel_rfl) rfl rfl (s_storeW 6 siz26 rfl rfl rfl rfl rfl rfl ⟨(subl_cons rfl (subl_cons rfl (subl_cons rfl (subl_cons rfl (subl_cons rfl (subl_cons rfl (sub_without _ _))))))), ?_⟩)  -- simplex.go:149
        refine tail_one 22 (by kernel_rfl) rfl rfl (s_storeW 7 siz26 rfl rfl rfl rfl rfl rfl ⟨(subl_cons rfl (subl_cons rfl (subl_cons rfl (subl_cons rfl (subl_cons rfl (subl_cons rfl (subl_cons rfl (sub_without _ _)))))))), ?_⟩)  -- simplex.go:149
        refine tail_one 23 (by kernel_rfl) rfl rfl (s_storeW 8 siz26 rfl rfl rfl rfl rfl rfl ⟨(subl_cons rfl (subl_cons rfl (subl_cons rfl (subl_cons rfl (subl_cons rfl (subl_cons rfl (subl_cons rfl (subl_cons rfl (sub_without _ _))))))))), ?_⟩)  -- simplex.go:149
        refine tail_nil (by kernel_rfl) ?_
        exact at_join (b5, b6, b7, b8) (trivial) (subs ⟨rfl, rfl, rfl, rfl, trivial⟩) (subs ⟨rfl, rfl, rfl, rfl, trivial⟩)
  · -- behind region 1
    rintro ⟨b5, b6, b7, b8⟩ -
    conv => enter [7]; dsimp only
    conv => enter [8]; dsimp only
    refine cw_sr ?_
    refine steps_q rfl (q_assign rfl) ?_  -- simplex.go:150
    refine steps_nil ?_
    refine cw_block ?_
    -- LOOP 1 writes [9, 10, 11, 13, 14, 16, 17, 18, 35, 36, 37, 38, 39, 40, 41, 42, 43, 44, 45, 46, 47, 48, 49, 50, 51, 52, 53, 54, 55, 56, 57, 58, 59, 60, 61, 62, 63, 64, 65, 66, 67, 68, 69, 70, 71, 72, 73, 74, 75, 76, 77, 78, 79, 80]  stores via [5, 6, 7, 8, 10, 11, 13, 14]  reads [5, 6, 7, 8]
    refine cw_loop (S := Int × Int × Int × Int × Int) (fun s => [(5, .pointer (some ⟨b5, 0, none⟩)), (6, .pointer (some ⟨b6, 0, none⟩)), (7, .pointer (some ⟨b7, 0, none⟩)), (8, .pointer (some ⟨b8, 0, none⟩)), (9, .int .i64 s.2.2.2.2)]) (fun s => [(5, (b5, .cells (Wl s.1).toArray 26 (0, 0))), (6, (b6, .cells (Wl s.2.1).toArray 26 (0, 0))), (7, (b7, .cells (Wl s.2.2.1).toArray 26 (0, 0))), (8, (b8, .cells (Wl s.2.2.2.1).toArray 26 (0, 0)))]) (fun s => CmI (nearI a b) s.1 s.2.1 s.2.2.1 s.2.2.2.1 s.2.2.2.2) (fun s => s.2.2.1.toNat) (sqS a.n, sqS b.n, a.d * a.d, b.d * b.d, 1) ⟨sa.1, sa.2, sb.1, sb.2, ea.1, ea.2, eb.1, eb.2, .inl rfl, by rw [Int.one_mul]; rfl⟩ (subs ⟨rfl, rfl, rfl, rfl, rfl, trivial⟩) (subs ⟨rfl, rfl, rfl, rfl, trivial⟩) ?_
    rintro ⟨x, y, p, q, t⟩ hI
    dsimp only at hI
    conv => enter [7]; dsimp only
    conv => enter [8]; dsimp only
    obtain ⟨x0, x1, y0, y1, p0, p1, q0, q1, t1, hg⟩ := hI
    have fx := fits_pos x0 x1
    have fy := fits_pos y0 y1
    have fp := fits_pos (Int.le_of_lt p0) p1
    have fq := fits_pos (Int.le_of_lt q0) q1
    have r0 := Int.emod_nonneg x (by omega : p ≠ 0)
    have r1 := Int.emod_lt_of_pos x p0
    have s0 := Int.emod_nonneg y (by omega : q ≠ 0)
    have s1 := Int.emod_lt_of_pos y q0
    have hcc : ∀ u v : Int, cmp3 u v = 1 ∨ cmp3 u v = -1 ∨ cmp3 u v = 0 := fun u v => by unfold cmp3; split <;> (try split) <;> simp
    refine cw_seq ?_
    refine cw_block ?_
    refine cw_sr ?_
    refine steps_q rfl (q_loadW 5 agg26 rfl rfl rfl) ?_  -- simplex.go:151
    refine steps_q rfl (q_loadW 7 agg26 rfl rfl rfl) ?_  -- simplex.go:151
    refine steps_q rfl (q_pure ent27 rfl (wide_Div fx fp (by omega))) ?_  -- simplex.go:151
    refine steps_q rfl (q_move rfl) ?_  -- simplex.go:151
    refine steps_q rfl (q_extract rfl rfl) ?_  -- simplex.go:151
    refine steps_q rfl (q_extract rfl rfl) ?_  -- simplex.go:151
    refine steps_q rfl (q_extract rfl rfl) ?_  -- simplex.go:151
    refine steps_s (s_allocA 10 rfl zer26 fun b10 => ?_)  -- simplex.go:151
    refine steps_s (s_allocA 11 rfl zer26 fun b11 => ?_)  -- simplex.go:151
    refine steps_s (s_storeW 10 siz26 rfl rfl rfl rfl rfl rfl ?_)  -- simplex.go:151
    refine steps_s (s_storeW 11 siz26 rfl rfl rfl rfl rfl rfl ?_)  -- simplex.go:151
    refine steps_q rfl (q_assign rfl) ?_  -- simplex.go:151
    refine steps_nil ?_
    refine cw_sr ?_
    refine steps_q rfl (q_loadW 6 agg26 rfl rfl rfl) ?_  -- simplex.go:152
    refine steps_q rfl (q_loadW 8 agg26 rfl rfl rfl) ?_  -- simplex.go:152
    refine steps_q rfl (q_pure ent27 rfl (wide_Div fy fq (by omega))) ?_  -- simplex.go:152
    refine steps_q rfl (q_move rfl) ?_  -- simplex.go:152
    refine steps_q rfl (q_extract rfl rfl) ?_  -- simplex.go:152
    refine steps_q rfl (q_extract rfl rfl) ?_  -- simplex.go:152
    refine steps_q rfl (q_extract rfl rfl) ?_  -- simplex.go:152
    refine steps_s (s_allocA 13 rfl zer26 fun b13 => ?_)  -- simplex.go:152
    refine steps_s (s_allocA 14 rfl zer26 fun b14 => ?_)  -- simplex.go:152
    refine steps_s (s_storeW 13 siz26 rfl rfl rfl rfl rfl rfl ?_)  -- simplex.go:152
    refine steps_s (s_storeW 14 siz26 rfl rfl rfl rfl rfl rfl ?_)  -- simplex.go:152
    refine steps_q rfl (q_assign rfl) ?_  -- simplex.go:152
    refine steps_nil ?_
    refine cw_seq ?_
    refine cw_sr ?_
    refine steps_q rfl (q_loadW 10 agg26 rfl rfl rfl) ?_  -- simplex.go:153
    refine steps_q rfl (q_loadW 13 agg26 rfl rfl rfl) ?_  -- simplex.go:153
    refine steps_q rfl (q_pure ent21 rfl (wide_Cmp _ _ (div_fits fx (by omega)) (div_fits fy (by omega)))) ?_  -- simplex.go:153
    refine steps_q rfl (q_assign rfl) ?_  -- simplex.go:153
    refine steps_nil ?_
    refine cw_sr ?_
    refine steps_q rfl (q_move rfl) ?_  -- simplex.go:153
    refine steps_q rfl (q_bin rfl rfl rfl) ?_  -- simplex.go:153
    refine steps_nil ?_
    refine cw_cond _ rfl (fun hc1 => ?_) (fun hc1 => ?_)
    · -- yes 1
      have hne : cmpI (x / p) (y / q) ≠ 0 := by simpa using hc1
      have hw : x / p ≠ y / q := fun h => hne (cmp3_eq h)
      have he : cmpI (x / p) (y / q) * t = nearI a b := by rw [hg, frac_whole p0 q0 hw, Int.mul_comm]; rfl
      have hb3 : -1 ≤ cmpI (x / p) (y / q) * t ∧ cmpI (x / p) (y / q) * t ≤ 1 := by rcases t1 with rfl | rfl <;> rcases hcc (x / p) (y / q) with h | h | h <;> (rw [cmp3_I] at h; rw [h]; decide)
      refine cw_sr ?_
      refine steps_q rfl (q_move rfl) ?_  -- simplex.go:154
      refine steps_q rfl (q_move rfl) ?_  -- simplex.go:154
      refine steps_q rfl (q_bin rfl rfl (mul64 (by omega) (by omega))) ?_  -- simplex.go:154
      refine steps_q rfl (q_assign rfl) ?_  -- simplex.go:154
      refine steps_nil ?_
      refine cw_ret ?_
      rw [he]
      exact ret_pure rfl (rv_tmp rfl rv_nil) rfl
    · -- no 1
      have hw0 : cmpI (x / p) (y / q) = 0 := by simpa using hc1
      have hw : x / p = y / q := by
        rcases Int.lt_trichotomy (x / p) (y / q) with h | h | h
        · rw [← cmp3_I, cmp3_lt h] at hw0; omega
        · exact h
        · rw [← cmp3_I, cmp3_gt h] at hw0; omega
      rw [frac_rest hw] at hg
      have fr := mod_fits (a := x) fp (by omega)
      have fs := mod_fits (a := y) fq (by omega)
      refine cw_skip ?_
      refine at_then ?_
      rcases Decidable.em (x % p = 0) with hr | hr <;> rcases Decidable.em (y % q = 0) with hs | hs
      · -- way 9.a
        refine cw_sd mixed [0, 1, 2, 3, 4, 5, 6, 7] 0 _ (by kernel_rfl) (SubL.refl _) ?_
        refine qi_q rfl rfl (q_loadW 11 agg26 rfl rfl rfl) ?_  -- simplex.go:156
        refine qi_q rfl rfl (q_pure ent28 rfl (wide_Sign _ fr)) ?_  -- simplex.go:156
        refine qi_q rfl rfl (q_bin rfl rfl (sgn_is hr)) ?_  -- simplex.go:156
        refine qi_q rfl rfl (q_loadW 14 agg26 rfl rfl rfl) ?_  -- simplex.go:156
        refine qi_q rfl rfl (q_pure ent28 rfl (wide_Sign _ fs)) ?_  -- simplex.go:156
        refine qi_q rfl rfl (q_bin rfl rfl (sgn_is hs)) ?_  -- simplex.go:156
        refine qi_q rfl rfl (q_assign rfl) ?_  -- simplex.go:156
        refine qi_q rfl rfl (q_assign rfl) ?_  -- simplex.go:156
        refine qi_nil ?_
        refine tail_nil (by kernel_rfl) ?_
        refine cw_seq ?_
        refine cw_block ?_
        refine cw_sr ?_
        refine steps_q rfl (q_move rfl) ?_  -- simplex.go:158
        refine steps_q rfl (q_move rfl) ?_  -- simplex.go:158
        refine steps_gq rfl rfl rfl (q_move rfl) ?_  -- simplex.go:158
        refine steps_q rfl (q_pick_t rfl rfl) ?_  -- simplex.go:158
        refine steps_q rfl (q_assign rfl) ?_  -- simplex.go:158
        refine steps_nil ?_
        refine cw_cond _ rfl (fun hc2 => ?_) (fun hc2 => ?_)
        · -- yes 2
          refine cw_sr ?_
          refine steps_q rfl (q_assign rfl) ?_  -- simplex.go:159
          refine steps_nil ?_
          refine cw_ret ?_
          rw [show nearI a b = 0 by rw [hg, hr, hs, Int.zero_mul, Int.zero_mul, cmp3_eq rfl, Int.mul_zero]]
          exact ret_pure rfl (rv_tmp rfl rv_nil) rfl
        · cases hc2
      · -- way 9.b
        refine cw_sd mixed [0, 1, 2, 3, 4, 5, 6, 7] 0 _ (by kernel_rfl) (SubL.refl _) ?_
        refine qi_q rfl rfl (q_loadW 11 agg26 rfl rfl rfl) ?_  -- simplex.go:156
        refine qi_q rfl rfl (q_pure ent28 rfl (wide_Sign _ fr)) ?_  -- simplex.go:156
        refine qi_q rfl rfl (q_bin rfl rfl (sgn_is hr)) ?_  -- simplex.go:156
        refine qi_q rfl rfl (q_loadW 14 agg26 rfl rfl rfl) ?_  -- simplex.go:156
        refine qi_q rfl rfl (q_pure ent28 rfl (wide_Sign _ fs)) ?_  -- simplex.go:156
        refine qi_q rfl rfl (q_bin rfl rfl (sgn_isnt hs)) ?_  -- simplex.go:156
        refine qi_q rfl rfl (q_assign rfl) ?_  -- simplex.go:156
        refine qi_q rfl rfl (q_assign rfl) ?_  -- simplex.go:156
        refine qi_nil ?_
        refine tail_nil (by kernel_rfl) ?_
        refine cw_seq ?_
        refine cw_block ?_
        refine cw_sr ?_
        refine steps_q rfl (q_move rfl) ?_  -- simplex.go:158
        refine steps_q rfl (q_move rfl) ?_  -- simplex.go:158
        refine steps_gq rfl rfl rfl (q_move rfl) ?_  -- simplex.go:158
        refine steps_q rfl (q_pick_t rfl rfl) ?_  -- simplex.go:158
        refine steps_q rfl (q_assign rfl) ?_  -- simplex.go:158
        refine steps_nil ?_
        refine cw_cond _ rfl (fun hc2 => ?_) (fun hc2 => ?_)
        · cases hc2
        · -- no 2
          refine cw_sr ?_
          refine steps_q rfl (q_move rfl) ?_  -- simplex.go:160
          refine steps_q rfl (q_assign rfl) ?_  -- simplex.go:160
          refine steps_nil ?_
          refine cw_cond _ rfl (fun hc3 => ?_) (fun hc3 => ?_)
          · -- yes 3
            refine cw_sr ?_
            refine steps_q rfl (q_move rfl) ?_  -- simplex.go:161
            refine steps_q rfl (q_neg rfl (sub64 (by omega) (by omega))) ?_  -- simplex.go:161
            refine steps_q rfl (q_assign rfl) ?_  -- simplex.go:161
            refine steps_nil ?_
            refine cw_ret ?_
            rw [show nearI a b = 0 - t by rw [hg, hr, Int.zero_mul, cmp3_lt (Int.mul_pos (by omega) p0)]; omega]
            exact ret_pure rfl (rv_tmp rfl rv_nil) rfl
          · cases hc3
      · -- way 9.c
        refine cw_sd mixed [0, 1, 2, 3, 4, 5, 6, 7] 0 _ (by kernel_rfl) (SubL.refl _) ?_
        refine qi_q rfl rfl (q_loadW 11 agg26 rfl rfl rfl) ?_  -- simplex.go:156
        refine qi_q rfl rfl (q_pure ent28 rfl (wide_Sign _ fr)) ?_  -- simplex.go:156
        refine qi_q rfl rfl (q_bin rfl rfl (sgn_isnt hr)) ?_  -- simplex.go:156
        refine qi_q rfl rfl (q_loadW 14 agg26 rfl rfl rfl) ?_  -- simplex.go:156
        refine qi_q rfl rfl (q_pure ent28 rfl (wide_Sign _ fs)) ?_  -- simplex.go:156
        refine qi_q rfl rfl (q_bin rfl rfl (sgn_is hs)) ?_  -- simplex.go:156
        refine qi_q rfl rfl (q_assign rfl) ?_  -- simplex.go:156
        refine qi_q rfl rfl (q_assign rfl) ?_  -- simplex.go:156
        refine qi_nil ?_
        refine tail_nil (by kernel_rfl) ?_
        refine cw_seq ?_
        refine cw_block ?_
        refine cw_sr ?_
        refine steps_q rfl (q_move rfl) ?_  -- simplex.go:158
        refine steps_q rfl (q_move rfl) ?_  -- simplex.go:158
        refine steps_gn rfl rfl rfl rfl ?_  -- simplex.go:158
        refine steps_q rfl (q_pick_f rfl rfl) ?_  -- simplex.go:158
        refine steps_q rfl (q_assign rfl) ?_  -- simplex.go:158
        refine steps_nil ?_
        refine cw_cond _ rfl (fun hc2 => ?_) (fun hc2 => ?_)
        · cases hc2
        · -- no 2
          refine cw_sr ?_
          refine steps_q rfl (q_move rfl) ?_  -- simplex.go:160
          refine steps_q rfl (q_assign rfl) ?_  -- simplex.go:160
          refine steps_nil ?_
          refine cw_cond _ rfl (fun hc3 => ?_) (fun hc3 => ?_)
          · cases hc3
          · -- no 3
            refine cw_sr ?_
            refine steps_q rfl (q_move rfl) ?_  -- simplex.go:162
            refine steps_q rfl (q_assign rfl) ?_  -- simplex.go:162
            refine steps_nil ?_
            refine cw_cond _ rfl (fun hc4 => ?_) (fun hc4 => ?_)
            · -- yes 4
              refine cw_sr ?_
              refine steps_q rfl (q_move rfl) ?_  -- simplex.go:163
              refine steps_q rfl (q_assign rfl) ?_  -- simplex.go:163
              refine steps_nil ?_
              refine cw_ret ?_
              rw [show nearI a b = t by rw [hg, hs, Int.zero_mul, cmp3_gt (Int.mul_pos (by omega) q0)]; omega]
              exact ret_pure rfl (rv_tmp rfl rv_nil) rfl
            · cases hc4
      · -- way 9.d
        refine cw_sd mixed [0, 1, 2, 3, 4, 5, 6, 7] 0 _ (by kernel_rfl) (SubL.refl _) ?_
        refine qi_q rfl rfl (q_loadW 11 agg26 rfl rfl rfl) ?_  -- simplex.go:156
        refine qi_q rfl rfl (q_pure ent28 rfl (wide_Sign _ fr)) ?_  -- simplex.go:156
        refine qi_q rfl rfl (q_bin rfl rfl (sgn_isnt hr)) ?_  -- simplex.go:156
        refine qi_q rfl rfl (q_loadW 14 agg26 rfl rfl rfl) ?_  -- simplex.go:156
        refine qi_q rfl rfl (q_pure ent28 rfl (wide_Sign _ fs)) ?_  -- simplex.go:156
        refine qi_q rfl rfl (q_bin rfl rfl (sgn_isnt hs)) ?_  -- simplex.go:156
        refine qi_q rfl rfl (q_assign rfl) ?_  -- simplex.go:156
        refine qi_q rfl rfl (q_assign rfl) ?_  -- simplex.go:156
        refine qi_nil ?_
        refine tail_nil (by kernel_rfl) ?_
        refine cw_seq ?_
        refine cw_block ?_
        refine cw_sr ?_
        refine steps_q rfl (q_move rfl) ?_  -- simplex.go:158
        refine steps_q rfl (q_move rfl) ?_  -- simplex.go:158
        refine steps_gn rfl rfl rfl rfl ?_  -- simplex.go:158
        refine steps_q rfl (q_pick_f rfl rfl) ?_  -- simplex.go:158
        refine steps_q rfl (q_assign rfl) ?_  -- simplex.go:158
        refine steps_nil ?_
        refine cw_cond _ rfl (fun hc2 => ?_) (fun hc2 => ?_)
        · cases hc2
        · -- no 2
          refine cw_sr ?_
          refine steps_q rfl (q_move rfl) ?_  -- simplex.go:160
          refine steps_q rfl (q_assign rfl) ?_  -- simplex.go:160
          refine steps_nil ?_
          refine cw_cond _ rfl (fun hc3 => ?_) (fun hc3 => ?_)
          · cases hc3
          · -- no 3
            refine cw_sr ?_
            refine steps_q rfl (q_move rfl) ?_  -- simplex.go:162
            refine steps_q rfl (q_assign rfl) ?_  -- simplex.go:162
            refine steps_nil ?_
            refine cw_cond _ rfl (fun hc4 => ?_) (fun hc4 => ?_)
            · cases hc4
            · -- no 4
              refine cw_skip ?_
              refine at_then ?_
              refine cw_meet (fun _ => [(5, .pointer (some ⟨b5, 0, none⟩)), (6, .pointer (some ⟨b6, 0, none⟩)), (7, .pointer (some ⟨b7, 0, none⟩)), (8, .pointer (some ⟨b8, 0, none⟩)), (9, .int .i64 t)]) (fun _ => [(5, (b5, .cells (Wl p).toArray 26 (0, 0))), (6, (b6, .cells (Wl q).toArray 26 (0, 0))), (7, (b7, .cells (Wl (x % p)).toArray 26 (0, 0))), (8, (b8, .cells (Wl (y % q)).toArray 26 (0, 0)))]) ?_ ?_
              · -- the orders of region 16
                refine cw_draw mixed [1, 3] 6 (without _ [5, 6, 7, 8]) (by kernel_rfl) (sub_without _ _) ?_
                refine qi_q rfl rfl (q_loadW 11 agg26 rfl rfl rfl) ?_  -- simplex.go:165
                refine qi_q rfl rfl (q_loadW 14 agg26 rfl rfl rfl) ?_  -- simplex.go:165
                refine qi_nil ?_
                refine tail_cons [0, 2] (by kernel_rfl) ⟨⟨_, rfl, rfl, ?_⟩, ⟨_, rfl, rfl, ?_⟩, trivial⟩
                · refine (q_loadW 7 agg26 rfl rfl rfl).step rfl (by decide) ⟨(sub_without _ _), ?_⟩
                  refine tail_cons [2, 4] (by kernel_rfl) ⟨⟨_, rfl, rfl, ?_⟩, ⟨_, rfl, rfl, ?_⟩, trivial⟩
                  · refine (q_loadW 8 agg26 rfl rfl rfl).step rfl (by decide) ⟨(sub_without _ _), ?_⟩
                    refine tail_one 4 (by kernel_rfl) rfl rfl (s_storeW 5 siz26 rfl rfl rfl rfl rfl rfl ⟨(subl_cons rfl (sub_without _ _)), ?_⟩)  -- simplex.go:165
                    refine tail_one 5 (by kernel_rfl) rfl rfl (s_storeW 7 siz26 rfl rfl rfl rfl rfl rfl ⟨(subl_cons rfl (subl_cons rfl (sub_without _ _))), ?_⟩)  -- simplex.go:165
                    refine tail_one 6 (by kernel_rfl) rfl rfl (s_storeW 6 siz26 rfl rfl rfl rfl rfl rfl ⟨(subl_cons rfl (subl_cons rfl (subl_cons rfl (sub_without _ _)))), ?_⟩)  -- simplex.go:165
                    refine tail_one 7 (by kernel_rfl) rfl rfl (s_storeW 8 siz26 rfl rfl rfl rfl rfl rfl ⟨(subl_cons rfl (subl_cons rfl (subl_cons rfl (subl_cons rfl (sub_without _ _))))), ?_⟩)  -- simplex.go:165
                    refine tail_nil (by kernel_rfl) ?_
                    exact at_join () (trivial) (subs ⟨rfl, rfl, rfl, rfl, rfl, trivial⟩) (subs ⟨rfl, rfl, rfl, rfl, trivial⟩)
                  · refine s_storeW 5 siz26 rfl rfl rfl rfl rfl rfl ⟨(subl_cons rfl (sub_without _ _)), ?_⟩
                    refine tail_cons [2, 5] (by kernel_rfl) ⟨⟨_, rfl, rfl, ?_⟩, ⟨_, rfl, rfl, ?_⟩, trivial⟩
                    · refine (q_loadW 8 agg26 rfl rfl rfl).step rfl (by decide) ⟨(subl_cons rfl (sub_without _ _)), ?_⟩
                      refine tail_one 5 (by kernel_rfl) rfl rfl (s_storeW 7 siz26 rfl rfl rfl rfl rfl rfl ⟨(subl_cons rfl (subl_cons rfl (sub_without _ _))), ?_⟩)  -- simplex.go:165
                      refine tail_one 6 (by kernel_rfl) rfl rfl (s_storeW 6 siz26 rfl rfl rfl rfl rfl rfl ⟨(subl_cons rfl (subl_cons rfl (subl_cons rfl (sub_without _ _)))), ?_⟩)  -- simplex.go:165
                      refine tail_one 7 (by kernel_rfl) rfl rfl (s_storeW 8 siz26 rfl rfl rfl rfl rfl rfl ⟨(subl_cons rfl (subl_cons rfl (subl_cons rfl (subl_cons rfl (sub_without _ _))))), ?_⟩)  -- simplex.go:165
                      refine tail_nil (by kernel_rfl) ?_
                      exact at_join () (trivial) (subs ⟨rfl, rfl, rfl, rfl, rfl, trivial⟩) (subs ⟨rfl, rfl, rfl, rfl, trivial⟩)
                    · refine s_storeW 7 siz26 rfl rfl rfl rfl rfl rfl ⟨(subl_cons rfl (subl_cons rfl (sub_without _ _))), ?_⟩
                      refine tail_one 2 (by kernel_rfl) rfl rfl ((q_loadW 8 agg26 rfl rfl rfl).step rfl (by decide) ⟨(subl_cons rfl (subl_cons rfl (sub_without _ _))), ?_⟩)  -- simplex.go:165
                      refine tail_one 6 (by kernel_rfl) rfl rfl (s_storeW 6 siz26 rfl rfl rfl rfl rfl rfl ⟨(subl_cons rfl (subl_cons rfl (subl_cons rfl (sub_without _ _)))), ?_⟩)  -- simplex.go:165
                      refine tail_one 7 (by kernel_rfl) rfl rfl (s_storeW 8 siz26 rfl rfl rfl rfl rfl rfl ⟨(subl_cons rfl (subl_cons rfl (subl_cons rfl (subl_cons rfl (sub_without _ _))))), ?_⟩)  -- simplex.go:165
                      refine tail_nil (by kernel_rfl) ?_
                      exact at_join () (trivial) (subs ⟨rfl, rfl, rfl, rfl, rfl, trivial⟩) (subs ⟨rfl, rfl, rfl, rfl, trivial⟩)
                · refine (q_loadW 8 agg26 rfl rfl rfl).step rfl (by decide) ⟨(sub_without _ _), ?_⟩
                  refine tail_one 0 (by kernel_rfl) rfl rfl ((q_loadW 7 agg26 rfl rfl rfl).step rfl (by decide) ⟨(sub_without _ _), ?_⟩)  -- simplex.go:165
                  refine tail_one 4 (by kernel_rfl) rfl rfl (s_storeW 5 siz26 rfl rfl rfl rfl rfl rfl ⟨(subl_cons rfl (sub_without _ _)), ?_⟩)  -- simplex.go:165
                  refine tail_one 5 (by kernel_rfl) rfl rfl (s_storeW 7 siz26 rfl rfl rfl rfl rfl rfl ⟨(subl_cons rfl (subl_cons rfl (sub_without _ _))), ?_⟩)  -- simplex.go:165
                  refine tail_one 6 (by kernel_rfl) rfl rfl (s_storeW 6 siz26 rfl rfl rfl rfl rfl rfl ⟨(subl_cons rfl (subl_cons rfl (subl_cons rfl (sub_without _ _)))), ?_⟩)  -- simplex.go:165
                  refine tail_one 7 (by kernel_rfl) rfl rfl (s_storeW 8 siz26 rfl rfl rfl rfl rfl rfl ⟨(subl_cons rfl (subl_cons rfl (subl_cons rfl (subl_cons rfl (sub_without _ _))))), ?_⟩)  -- simplex.go:165
                  refine tail_nil (by kernel_rfl) ?_
                  exact at_join () (trivial) (subs ⟨rfl, rfl, rfl, rfl, rfl, trivial⟩) (subs ⟨rfl, rfl, rfl, rfl, trivial⟩)
              · -- behind region 16
                refine at_then ?_
                refine cw_region ?_
                refine steps_q rfl (q_move rfl) ?_  -- simplex.go:150
                refine steps_q rfl (q_neg rfl (sub64 (by omega) (by omega))) ?_  -- simplex.go:150
                refine steps_q rfl (q_assign rfl) ?_  -- simplex.go:150
                refine steps_nil ?_
                exact at_round (p, q, x % p, y % q, 0 - t) ⟨Int.le_of_lt p0, p1, Int.le_of_lt q0, q1, by dsimp only; omega, by dsimp only; omega, by dsimp only; omega, by dsimp only; omega, by dsimp only; omega, by dsimp only; rw [hg, cmp3_neg, Int.mul_comm p, Int.mul_comm q, Int.zero_sub, Int.mul_neg, Int.neg_mul]⟩ (by dsimp only; omega) (subs ⟨rfl, rfl, rfl, rfl, rfl, trivial⟩) (subs ⟨rfl, rfl, rfl, rfl, trivial⟩)
end Go.Proofs.Ytomdahjakkifbaa
