/-
  The nearest point of a body of points: its weights, the simplex that bears it, that there is one and but one. Plain numbers; no program. Where orders meet, with what they have made. The walks of package simplex: weights. The walks of package simplex: weights. Blocks by other numbers; a row of blocks; a range over a function that makes what it hands out. The walks of math/bits: OnesCount, of small numbers. The walks of package simplex: sized. The walks of package simplex: choices.
-/
import Derived.Test.YtomdahjakkifbaaGreatPd

/-
  The nearest point of a body of points: its weights, the simplex that bears it, that there is one and but one. Plain numbers; no program.
-/
namespace Go.Proofs.YtomdahjakkifbaaGreat
set_option maxRecDepth 100000
/-! ## Sums by weights -/
def dotV (a b : Sp) : Int := a.x * b.x + a.y * b.y + a.z * b.z
def tot : List Int → Int
  | [] => 0
  | x :: r => x + tot r
def comb : List Int → List Pt → Sp
  | u :: us, q :: qs => addW (comb us qs) u q
  | _, _ => ⟨0, 0, 0⟩
theorem sumR_comb : ∀ (ps : List Pt) (ws : List Int) (s : Sp), sumR ps ws s = ⟨s.x + (comb ws ps).x, s.y + (comb ws ps).y, s.z + (comb ws ps).z⟩
  | [], [], s => by simp [sumR, comb]
  | [], _ :: _, s => by simp [sumR, comb]
  | _ :: _, [], s => by simp [sumR, comb]
  | p :: r, u :: v, s => by
    simp only [sumR, comb]
    rw [sumR_comb r v]
    simp only [addW, Sp.mk.injEq]
    omega
theorem sumR0 (ps : List Pt) (ws : List Int) : sumR ps ws ⟨0, 0, 0⟩ = comb ws ps := by rw [sumR_comb]; simp
def mix (a b : Int) : List Int → List Int → List Int
  | x :: u, y :: v => (a * x + b * y) :: mix a b u v
  | _, _ => []
theorem mix_len (a b : Int) : ∀ (u v : List Int), u.length = v.length → (mix a b u v).length = v.length
  | [], [], _ => rfl
  | _ :: _, _ :: _, h => by simp only [mix, List.length_cons, mix_len a b _ _ (Nat.succ.inj h)]
  | [], _ :: _, h => by cases h
  | _ :: _, [], h => by cases h
theorem mix_tot (a b : Int) : ∀ (u v : List Int), u.length = v.length → tot (mix a b u v) = a * tot u + b * tot v
  | [], [], _ => by simp [mix, tot]
  | x :: u, y :: v, h => by
    simp only [mix, tot, mix_tot a b u v (Nat.succ.inj h)]; grind
  | [], _ :: _, h => by cases h
  | _ :: _, [], h => by cases h
theorem mix_comb (a b : Int) : ∀ (u v : List Int) (T : List Pt), u.length = v.length → v.length = T.length →
    comb (mix a b u v) T = ⟨a * (comb u T).x + b * (comb v T).x, a * (comb u T).y + b * (comb v T).y, a * (comb u T).z + b * (comb v T).z⟩
  | [], [], [], _, _ => by simp [mix, comb]
  | x :: u, y :: v, q :: T, h, k => by
    simp only [mix, comb, mix_comb a b u v T (Nat.succ.inj h) (Nat.succ.inj k), addW, Sp.mk.injEq]
    refine ⟨?_, ?_, ?_⟩ <;> grind
  | [], _ :: _, _, h, _ => by cases h
  | _ :: _, [], _, h, _ => by cases h
  | _, _ :: _, [], _, h => by cases h
  | _, [], _ :: _, _, h => by cases h
theorem mix_get (a b : Int) : ∀ (u v : List Int), u.length = v.length → ∀ (i : Nat) (x y : Int), u[i]? = some x → v[i]? = some y → (mix a b u v)[i]? = some (a * x + b * y)
  | x :: u, y :: v, h, 0, p, q, hp, hq => by simp at hp hq; subst hp hq; simp [mix]
  | x :: u, y :: v, h, i + 1, p, q, hp, hq => by simpa [mix] using mix_get a b u v (Nat.succ.inj h) i p q (by simpa using hp) (by simpa using hq)
  | [], _, _, _, _, _, hp, _ => by simp at hp
  | _ :: _, [], h, _, _, _, _, _ => by cases h
theorem mix_mem {a b : Int} : ∀ {u v : List Int}, u.length = v.length → ∀ {z : Int}, z ∈ mix a b u v → ∃ (i : Nat) (x y : Int), u[i]? = some x ∧ v[i]? = some y ∧ z = a * x + b * y
  | x :: u, y :: v, h, z, hz => by
    simp only [mix, List.mem_cons] at hz
    rcases hz with rfl | hz
    · exact ⟨0, x, y, rfl, rfl, rfl⟩
    · obtain ⟨i, p, q, h1, h2, h3⟩ := mix_mem (Nat.succ.inj h) hz
      exact ⟨i + 1, p, q, by simpa using h1, by simpa using h2, h3⟩
  | [], _, _, _, hz => by simp [mix] at hz
  | _ :: _, [], h, _, _ => by cases h

theorem dotV_addW (v s : Sp) (u : Int) (p : Pt) : dotV v (addW s u p) = dotV v s + u * dotS v p := by
  simp only [dotV, addW, dotS]; grind
/-- All as far along, or further. -/
theorem comb_ge {v : Sp} {a b : Int} : ∀ {u : List Int} {T : List Pt}, u.length = T.length → (∀ x ∈ u, 0 ≤ x) → (∀ q ∈ T, b ≤ dotS v q * a) → b * tot u ≤ dotV v (comb u T) * a
  | [], [], _, _, _ => by simp [tot, comb, dotV]
  | x :: u, q :: T, h, hu, hq => by
    have ih := comb_ge (u := u) (T := T) (Nat.succ.inj h) (fun y hy => hu y (by simp [hy])) (fun p hp => hq p (by simp [hp]))
    have hx := hu x (by simp)
    have h1 := Int.mul_le_mul_of_nonneg_left (hq q (by simp)) hx
    simp only [tot, comb, dotV_addW]
    grind
  | [], _ :: _, h, _, _ => by cases h
  | _ :: _, [], h, _, _ => by cases h
theorem comb_eq {v : Sp} {b : Int} : ∀ {u : List Int} {T : List Pt}, u.length = T.length → (∀ q ∈ T, dotS v q = b) → dotV v (comb u T) = b * tot u
  | [], [], _, _ => by simp [tot, comb, dotV]
  | x :: u, q :: T, h, hq => by
    have ih := comb_eq (u := u) (T := T) (Nat.succ.inj h) (fun p hp => hq p (by simp [hp]))
    have h1 := hq q (by simp)
    simp only [tot, comb, dotV_addW, h1, ih]
    grind
  | [], _ :: _, h, _ => by cases h
  | _ :: _, [], h, _ => by cases h
theorem tot_nn : ∀ {u : List Int}, (∀ x ∈ u, 0 ≤ x) → 0 ≤ tot u
  | [], _ => Int.le_refl 0
  | x :: u, h => by
    have := tot_nn (u := u) fun y hy => h y (by simp [hy])
    have := h x (by simp)
    simp only [tot]; omega
theorem tot_pos {u : List Int} (h : ∀ x ∈ u, 0 < x) (hn : u ≠ []) : 0 < tot u := by
  cases u with
  | nil => exact absurd rfl hn
  | cons x u =>
    have := tot_nn (u := u) fun y hy => Int.le_of_lt (h y (by simp [hy]))
    have := h x (by simp)
    simp only [tot]; omega
theorem sq_dotV (n : Sp) : sqS n = dotV n n := rfl
theorem sqS_nn (n : Sp) : 0 ≤ sqS n := by
  have := sq_nn n.x; have := sq_nn n.y; have := sq_nn n.z
  unfold sqS; omega
theorem sq0 {x : Int} (h : x * x = 0) : x = 0 := by rcases Int.mul_eq_zero.1 h with h | h <;> exact h
theorem sqS_zero {n : Sp} (h : sqS n = 0) : n = ⟨0, 0, 0⟩ := by
  have h1 := sq_nn n.x; have h2 := sq_nn n.y; have h3 := sq_nn n.z
  unfold sqS at h
  have a := sq0 (x := n.x) (by omega)
  have b := sq0 (x := n.y) (by omega)
  have c := sq0 (x := n.z) (by omega)
  cases n; simp_all

/-! ## Points in general position -/
def AI (T : List Pt) : Prop := ∀ u : List Int, u.length = T.length → tot u = 0 → comb u T = ⟨0, 0, 0⟩ → ∀ x ∈ u, x = 0

/-! ## Weights -/
def ptI (T : List Pt) (i : Int) : Pt := T.getD i.toNat ⟨0, 0, 0⟩
def eI (T : List Pt) (i : Int) : Pt := subP (ptI T (i + 1)) (ptI T 0)
def gI (T : List Pt) (i k : Int) : Int := if k = T.length - 1 then - dotS (eI T i).sp (ptI T 0) else dotS (eI T i).sp (eI T k)
def dI (T : List Pt) : Int := minorI (T.length - 1) (gI T) (-1)
def msI (T : List Pt) : List Int := (List.range (T.length - 1)).map fun (k : Nat) => minorI (T.length - 1) (gI T) k
def wI (T : List Pt) : List Int := (dI T - tot (msI T)) :: msI T
theorem wI_tot (T : List Pt) : tot (wI T) = dI T := by simp only [wI, tot]; omega
theorem wI_len {T : List Pt} (h : T ≠ []) : (wI T).length = T.length := by
  cases T with
  | nil => exact absurd rfl h
  | cons a T => simp [wI, msI]
def nI (T : List Pt) : Sp := comb (wI T) T

theorem dI1 (a : Pt) : dI [a] = 1 := rfl
theorem wI1 (a : Pt) : wI [a] = [1] := rfl
theorem dI2 (a b : Pt) : dI [a, b] = dotS (subP b a).sp (subP b a) := rfl
theorem wI2 (a b : Pt) : wI [a, b] = [dotS (subP b a).sp (subP b a) - - dotS (subP b a).sp a, - dotS (subP b a).sp a] := by
  simp [wI, msI, dI2, tot, List.range_succ, minorI, atI, gI, eI, ptI]
def dot3 (a b c x y z : Int) : Int := a * x + b * y + c * z
theorem dI3 (a b c : Pt) : dI [a, b, c] = dotS (subP b a).sp (subP b a) * dotS (subP c a).sp (subP c a) - dotS (subP b a).sp (subP c a) * dotS (subP c a).sp (subP b a) := rfl
theorem msI3 (a b c : Pt) : msI [a, b, c] = [- dotS (subP b a).sp a * dotS (subP c a).sp (subP c a) - dotS (subP b a).sp (subP c a) * (- dotS (subP c a).sp a), dotS (subP b a).sp (subP b a) * (- dotS (subP c a).sp a) - (- dotS (subP b a).sp a) * dotS (subP c a).sp (subP b a)] := by
  simp [msI, List.range_succ, minorI, twoI, atI, gI, eI, ptI]
theorem dotS_symm (a b : Pt) : dotS a.sp b = dotS b.sp a := by simp only [dotS, Pt.sp]; grind
theorem dotS_sub (v : Sp) (a b : Pt) : dotS v (subP a b) = dotS v a - dotS v b := by simp only [dotS, subP]; grind
theorem dotS_sub' (a b c : Pt) : dotS (subP a b).sp c = dotS a.sp c - dotS b.sp c := by simp only [dotS, subP, Pt.sp]; grind
/-- Sums by weights, from the first point. -/
theorem comb_from {a : Pt} : ∀ {u : List Int} {T : List Pt} (x : Int) (q : Pt), u.length = T.length → dotS (comb (x :: u) (a :: T)) q = (x + tot u) * dotS a.sp q + dotS (comb u (T.map (subP · a))) q
  | [], [], x, q, _ => by simp [comb, addW, tot, dotS, Pt.sp]; grind
  | y :: u, b :: T, x, q, h => by
    have ih := comb_from (a := a) (u := u) (T := T) x q (Nat.succ.inj h)
    simp only [comb, List.map_cons, tot, dotS, addW, subP, Pt.sp] at ih ⊢
    grind
  | [], _ :: _, _, _, h => by cases h
  | _ :: _, [], _, _, h => by cases h
theorem dotS_addW (s : Sp) (u : Int) (p q : Pt) : dotS (addW s u p) q = dotS s q + u * dotS p.sp q := by simp only [dotS, addW, Pt.sp]; grind
theorem dotS_0 (q : Pt) : dotS ⟨0, 0, 0⟩ q = 0 := by simp [dotS]
theorem cram2 (g00 g01 g11 b0 b1 : Int) : (g00 * g11 - g01 * g01) * -b0 + ((b0 * g11 - g01 * b1) * g00 + (g00 * b1 - b0 * g01) * g01) = 0 ∧ (g00 * g11 - g01 * g01) * -b1 + ((b0 * g11 - g01 * b1) * g01 + (g00 * b1 - b0 * g01) * g11) = 0 := by
  constructor <;> grind
theorem dI4 (a b c d : Pt) : dI [a, b, c, d] =
    dotS (subP b a).sp (subP b a) * (dotS (subP c a).sp (subP c a) * dotS (subP d a).sp (subP d a) - dotS (subP c a).sp (subP d a) * dotS (subP d a).sp (subP c a))
    - dotS (subP b a).sp (subP c a) * (dotS (subP c a).sp (subP b a) * dotS (subP d a).sp (subP d a) - dotS (subP c a).sp (subP d a) * dotS (subP d a).sp (subP b a))
    + dotS (subP b a).sp (subP d a) * (dotS (subP c a).sp (subP b a) * dotS (subP d a).sp (subP c a) - dotS (subP c a).sp (subP c a) * dotS (subP d a).sp (subP b a)) := rfl
theorem msI4 (a b c d : Pt) : msI [a, b, c, d] = [
    -dotS (subP b a).sp a * (dotS (subP c a).sp (subP c a) * dotS (subP d a).sp (subP d a) - dotS (subP c a).sp (subP d a) * dotS (subP d a).sp (subP c a))
    - dotS (subP b a).sp (subP c a) * (-dotS (subP c a).sp a * dotS (subP d a).sp (subP d a) - dotS (subP c a).sp (subP d a) * -dotS (subP d a).sp a)
    + dotS (subP b a).sp (subP d a) * (-dotS (subP c a).sp a * dotS (subP d a).sp (subP c a) - dotS (subP c a).sp (subP c a) * -dotS (subP d a).sp a),
    dotS (subP b a).sp (subP b a) * (-dotS (subP c a).sp a * dotS (subP d a).sp (subP d a) - dotS (subP c a).sp (subP d a) * -dotS (subP d a).sp a)
    - -dotS (subP b a).sp a * (dotS (subP c a).sp (subP b a) * dotS (subP d a).sp (subP d a) - dotS (subP c a).sp (subP d a) * dotS (subP d a).sp (subP b a))
    + dotS (subP b a).sp (subP d a) * (dotS (subP c a).sp (subP b a) * -dotS (subP d a).sp a - -dotS (subP c a).sp a * dotS (subP d a).sp (subP b a)),
    dotS (subP b a).sp (subP b a) * (dotS (subP c a).sp (subP c a) * -dotS (subP d a).sp a - -dotS (subP c a).sp a * dotS (subP d a).sp (subP c a))
    - dotS (subP b a).sp (subP c a) * (dotS (subP c a).sp (subP b a) * -dotS (subP d a).sp a - -dotS (subP c a).sp a * dotS (subP d a).sp (subP b a))
    + -dotS (subP b a).sp a * (dotS (subP c a).sp (subP b a) * dotS (subP d a).sp (subP c a) - dotS (subP c a).sp (subP c a) * dotS (subP d a).sp (subP b a))] := rfl
/-- As far along for all. -/
theorem nI_level {T : List Pt} (h1 : 1 ≤ T.length) (h4 : T.length ≤ 4) : ∀ q ∈ T, dotS (nI T) q = dotS (nI T) (ptI T 0) := by
  have key : ∀ {a : Pt} {R : List Pt} {u : List Int} {x : Int}, u.length = R.length → ∀ q, dotS (comb (x :: u) (a :: R)) (subP q a) = 0 → dotS (comb (x :: u) (a :: R)) q = dotS (comb (x :: u) (a :: R)) a := by
    intro a R u x h q hq
    rw [dotS_sub] at hq; omega
  match T, h1, h4 with
  | [a], _, _ => intro q hq; simp at hq; subst hq; rfl
  | [a, b], _, _ =>
    intro q hq
    show dotS (comb (wI [a, b]) [a, b]) q = dotS (comb (wI [a, b]) [a, b]) a
    simp only [List.mem_cons, List.not_mem_nil, or_false] at hq
    rcases hq with rfl | rfl
    · rfl
    · refine key (by rfl) _ ?_
      rw [comb_from _ _ (by rfl)]
      have e : msI [a, q] = [- dotS (subP q a).sp a] := rfl
      rw [e, dI2]
      simp only [tot, List.map_cons, List.map_nil, comb, dotS_addW, dotS_0]
      rw [dotS_symm a]
      generalize dotS (subP q a).sp a = g
      generalize dotS (subP q a).sp (subP q a) = h
      grind
  | [a, b, c], _, _ =>
    intro q hq
    show dotS (comb (wI [a, b, c]) [a, b, c]) q = dotS (comb (wI [a, b, c]) [a, b, c]) a
    simp only [List.mem_cons, List.not_mem_nil, or_false] at hq
    rcases hq with h | h | h <;> rw [h]
    all_goals
      refine key (by rfl) _ ?_
      rw [comb_from _ _ (by rfl), msI3, dI3]
      simp only [tot, List.map_cons, List.map_nil, comb, dotS_addW, dotS_0]
      rw [dotS_symm a, dotS_symm (subP c a) (subP b a)]
      generalize dotS (subP b a).sp a = b0
      generalize dotS (subP c a).sp a = b1
      generalize dotS (subP b a).sp (subP b a) = g00
      generalize dotS (subP b a).sp (subP c a) = g01
      generalize dotS (subP c a).sp (subP c a) = g11
      grind
  | [a, b, c, d], _, _ =>
    intro q hq
    show dotS (comb (wI [a, b, c, d]) [a, b, c, d]) q = dotS (comb (wI [a, b, c, d]) [a, b, c, d]) a
    simp only [List.mem_cons, List.not_mem_nil, or_false] at hq
    rcases hq with h | h | h | h <;> rw [h]
    all_goals
      refine key (by rfl) _ ?_
      rw [comb_from _ _ (by rfl), msI4, dI4]
      simp only [tot, List.map_cons, List.map_nil, comb, dotS_addW, dotS_0]
      rw [dotS_symm a, dotS_symm (subP c a) (subP b a), dotS_symm (subP d a) (subP b a), dotS_symm (subP d a) (subP c a)]
      generalize dotS (subP b a).sp a = b0
      generalize dotS (subP c a).sp a = b1
      generalize dotS (subP d a).sp a = b2
      generalize dotS (subP b a).sp (subP b a) = g00
      generalize dotS (subP b a).sp (subP c a) = g01
      generalize dotS (subP b a).sp (subP d a) = g02
      generalize dotS (subP c a).sp (subP c a) = g11
      generalize dotS (subP c a).sp (subP d a) = g12
      generalize dotS (subP d a).sp (subP d a) = g22
      grind
/-- Along the nearest point of a plane all are as far as it is. -/
theorem nI_crit {T : List Pt} (h1 : 1 ≤ T.length) (h4 : T.length ≤ 4) : ∀ q ∈ T, dotS (nI T) q * dI T = sqS (nI T) := by
  intro q hq
  have hl := nI_level h1 h4
  have := comb_eq (v := nI T) (u := wI T) (T := T) (wI_len (by intro h; subst h; simp at h1)) hl
  rw [wI_tot] at this
  rw [hl q hq, ← this]; rfl
/-! ## When points are in general position -/
theorem crossP_sq (a b : Pt) : sqS (crossP a b) = dotS a.sp a * dotS b.sp b - dotS a.sp b * dotS a.sp b := by simp only [sqS, crossP, dotS, Pt.sp]; grind
theorem det_sq (a b c : Pt) : dotS (crossP b c) a * dotS (crossP b c) a =
    dotS a.sp a * (dotS b.sp b * dotS c.sp c - dotS b.sp c * dotS c.sp b) - dotS a.sp b * (dotS b.sp a * dotS c.sp c - dotS b.sp c * dotS c.sp a) + dotS a.sp c * (dotS b.sp a * dotS c.sp b - dotS b.sp b * dotS c.sp a) := by
  simp only [crossP, dotS, Pt.sp]; grind
theorem dI2_eq (a b : Pt) : dI [a, b] = sqS (subP b a).sp := by rw [dI2]; rfl
theorem dI3_eq (a b c : Pt) : dI [a, b, c] = sqS (crossP (subP b a) (subP c a)) := by
  rw [dI3, crossP_sq, dotS_symm (subP c a) (subP b a)]
theorem dI4_eq (a b c d : Pt) : dI [a, b, c, d] = dotS (crossP (subP c a) (subP d a)) (subP b a) * dotS (crossP (subP c a) (subP d a)) (subP b a) := by
  rw [dI4, det_sq]
theorem dI_nn {T : List Pt} (h1 : 1 ≤ T.length) (h4 : T.length ≤ 4) : 0 ≤ dI T := by
  match T, h1, h4 with
  | [a], _, _ => rw [dI1]; decide
  | [a, b], _, _ => rw [dI2_eq]; exact sqS_nn _
  | [a, b, c], _, _ => rw [dI3_eq]; exact sqS_nn _
  | [a, b, c, d], _, _ => rw [dI4_eq]; exact sq_nn _
theorem AI.two {a b : Pt} {r : List Pt} (h : AI (a :: b :: r)) : b ≠ a := by
  rintro rfl
  have hz : ∀ r : List Pt, tot (r.map fun _ => (0 : Int)) = 0 ∧ comb (r.map fun _ => (0 : Int)) r = ⟨0, 0, 0⟩ := by
    intro r
    induction r with
    | nil => exact ⟨rfl, rfl⟩
    | cons a r ih => simp [tot, comb, ih.1, ih.2, addW]
  have := h (1 :: -1 :: r.map fun _ => 0) (by simp) (by simp [tot, (hz r).1]) (by simp only [comb, (hz r).2, addW, Sp.mk.injEq]; omega) 1 (by simp)
  omega
theorem zeros (r : List Pt) : tot (r.map fun _ => (0 : Int)) = 0 ∧ comb (r.map fun _ => (0 : Int)) r = ⟨0, 0, 0⟩ := by
  induction r with
  | nil => exact ⟨rfl, rfl⟩
  | cons a r ih => simp [tot, comb, ih.1, ih.2, addW]
theorem sub_eq0 {a b : Pt} (h : (subP b a).sp = ⟨0, 0, 0⟩) : b = a := by
  cases a; cases b
  simp only [subP, Pt.sp, Sp.mk.injEq] at h
  simp only [Pt.mk.injEq]; omega
theorem AI.three {a b c : Pt} {r : List Pt} (h : AI (a :: b :: c :: r)) : crossP (subP b a) (subP c a) ≠ ⟨0, 0, 0⟩ := by
  intro hc
  have hne := h.two
  obtain ⟨z1, z2⟩ := zeros r
  simp only [crossP, subP, Sp.mk.injEq] at hc
  obtain ⟨c1, c2, c3⟩ := hc
  have k1 := h (((c.x - a.x) - (b.x - a.x)) :: (-(c.x - a.x)) :: (b.x - a.x) :: r.map fun _ => 0) (by simp) (by simp only [tot, z1]; omega) (by simp only [comb, z2, addW, Sp.mk.injEq]; refine ⟨?_, ?_, ?_⟩ <;> grind) (b.x - a.x) (by simp)
  have k2 := h (((c.y - a.y) - (b.y - a.y)) :: (-(c.y - a.y)) :: (b.y - a.y) :: r.map fun _ => 0) (by simp) (by simp only [tot, z1]; omega) (by simp only [comb, z2, addW, Sp.mk.injEq]; refine ⟨?_, ?_, ?_⟩ <;> grind) (b.y - a.y) (by simp)
  have k3 := h (((c.z - a.z) - (b.z - a.z)) :: (-(c.z - a.z)) :: (b.z - a.z) :: r.map fun _ => 0) (by simp) (by simp only [tot, z1]; omega) (by simp only [comb, z2, addW, Sp.mk.injEq]; refine ⟨?_, ?_, ?_⟩ <;> grind) (b.z - a.z) (by simp)
  exact hne (sub_eq0 (by simp only [subP, Pt.sp, Sp.mk.injEq]; omega))
theorem AI.four {a b c d : Pt} {r : List Pt} (h : AI (a :: b :: c :: d :: r)) : dotS (crossP (subP c a) (subP d a)) (subP b a) ≠ 0 := by
  intro hc
  have hne := h.three
  obtain ⟨z1, z2⟩ := zeros r
  refine hne ?_
  generalize hB : subP b a = B at *
  generalize hC : subP c a = C at *
  generalize hD : subP d a = E at *
  have eb : b.x = a.x + B.x ∧ b.y = a.y + B.y ∧ b.z = a.z + B.z := by subst hB; simp only [subP]; omega
  have ec : c.x = a.x + C.x ∧ c.y = a.y + C.y ∧ c.z = a.z + C.z := by subst hC; simp only [subP]; omega
  have ed : d.x = a.x + E.x ∧ d.y = a.y + E.y ∧ d.z = a.z + E.z := by subst hD; simp only [subP]; omega
  have main : ∀ u v t : Int, (u * B.x + v * C.x + t * E.x = 0 ∧ u * B.y + v * C.y + t * E.y = 0 ∧ u * B.z + v * C.z + t * E.z = 0) → t = 0 := by
    intro u v t ⟨h1, h2, h3⟩
    refine h (-(u + v + t) :: u :: v :: t :: r.map fun _ => 0) (by simp) (by simp only [tot, z1]; omega) ?_ t (by simp)
    simp only [comb, z2, addW, Sp.mk.injEq, eb.1, eb.2.1, eb.2.2, ec.1, ec.2.1, ec.2.2, ed.1, ed.2.1, ed.2.2]
    refine ⟨?_, ?_, ?_⟩ <;> grind
  simp only [crossP, dotS] at hc
  simp only [crossP, Sp.mk.injEq]
  refine ⟨main (C.y * E.z - C.z * E.y) (E.y * B.z - E.z * B.y) _ ⟨?_, ?_, ?_⟩, main (C.z * E.x - C.x * E.z) (E.z * B.x - E.x * B.z) _ ⟨?_, ?_, ?_⟩, main (C.x * E.y - C.y * E.x) (E.x * B.y - E.y * B.x) _ ⟨?_, ?_, ?_⟩⟩ <;> grind
theorem AI.pos {T : List Pt} (h1 : 1 ≤ T.length) (h4 : T.length ≤ 4) (h : AI T) : 0 < dI T := by
  have hn := dI_nn h1 h4
  rcases Int.lt_or_eq_of_le hn with hp | he
  · exact hp
  · exfalso
    match T, h1, h4, h, he with
    | [a], _, _, _, he => rw [dI1] at he; omega
    | [a, b], _, _, h, he => rw [dI2_eq] at he; exact h.two (sub_eq0 (sqS_zero he.symm))
    | [a, b, c], _, _, h, he => rw [dI3_eq] at he; exact h.three (sqS_zero he.symm)
    | [a, b, c, d], _, _, h, he => rw [dI4_eq] at he; exact h.four (sq0 he.symm)
theorem mul0 {d x : Int} (hd : d ≠ 0) (h : d * x = 0) : x = 0 := (Int.mul_eq_zero.1 h).resolve_left hd
theorem AI_of {T : List Pt} (h1 : 1 ≤ T.length) (h4 : T.length ≤ 4) (h : dI T ≠ 0) : AI T := by
  match T, h1, h4, h with
  | [a], _, _, _ =>
    intro u hu ht hc
    obtain ⟨x, rfl⟩ := List.length_eq_one_iff.1 hu
    intro y hy
    simp only [tot] at ht
    simp at hy; omega
  | [a, b], _, _, h =>
    intro u hu ht hc
    obtain ⟨x, y, rfl⟩ : ∃ x y, u = [x, y] := by
      match u, hu with
      | [x, y], _ => exact ⟨x, y, rfl⟩
    rw [dI2_eq] at h
    simp only [tot] at ht
    simp only [comb, addW, Sp.mk.injEq] at hc
    obtain ⟨c1, c2, c3⟩ := hc
    have hy : y = 0 := mul0 h (by
      have e : x = -y := by omega
      subst e
      simp only [sqS, subP, Pt.sp]; grind)
    intro z hz; simp at hz; omega
  | [a, b, c], _, _, h =>
    intro u hu ht hc
    obtain ⟨x, y, t, rfl⟩ : ∃ x y t, u = [x, y, t] := by
      match u, hu with
      | [x, y, t], _ => exact ⟨x, y, t, rfl⟩
    rw [dI3_eq] at h
    simp only [tot] at ht
    simp only [comb, addW, Sp.mk.injEq] at hc
    obtain ⟨c1, c2, c3⟩ := hc
    have e : x = -y - t := by omega
    subst e
    generalize hB : subP b a = B at *
    generalize hC : subP c a = C at *
    have eb : b.x = a.x + B.x ∧ b.y = a.y + B.y ∧ b.z = a.z + B.z := by subst hB; simp only [subP]; omega
    have ec : c.x = a.x + C.x ∧ c.y = a.y + C.y ∧ c.z = a.z + C.z := by subst hC; simp only [subP]; omega
    rw [eb.1, ec.1] at c1
    rw [eb.2.1, ec.2.1] at c2
    rw [eb.2.2, ec.2.2] at c3
    have h1 : y * B.x + t * C.x = 0 := by grind
    have h2 : y * B.y + t * C.y = 0 := by grind
    have h3 : y * B.z + t * C.z = 0 := by grind
    have hy : y = 0 := mul0 h (by simp only [sqS, crossP]; grind)
    have htt : t = 0 := mul0 h (by simp only [sqS, crossP]; grind)
    intro z hz; simp at hz; omega
  | [a, b, c, d], _, _, h =>
    intro u hu ht hc
    obtain ⟨x, y, t, s, rfl⟩ : ∃ x y t s, u = [x, y, t, s] := by
      match u, hu with
      | [x, y, t, s], _ => exact ⟨x, y, t, s, rfl⟩
    rw [dI4_eq] at h
    have h : dotS (crossP (subP c a) (subP d a)) (subP b a) ≠ 0 := fun hz => h (by rw [hz]; rfl)
    simp only [tot] at ht
    simp only [comb, addW, Sp.mk.injEq] at hc
    obtain ⟨c1, c2, c3⟩ := hc
    have e : x = -y - t - s := by omega
    subst e
    generalize hB : subP b a = B at *
    generalize hC : subP c a = C at *
    generalize hD : subP d a = E at *
    have eb : b.x = a.x + B.x ∧ b.y = a.y + B.y ∧ b.z = a.z + B.z := by subst hB; simp only [subP]; omega
    have ec : c.x = a.x + C.x ∧ c.y = a.y + C.y ∧ c.z = a.z + C.z := by subst hC; simp only [subP]; omega
    have ed : d.x = a.x + E.x ∧ d.y = a.y + E.y ∧ d.z = a.z + E.z := by subst hD; simp only [subP]; omega
    rw [eb.1, ec.1, ed.1] at c1
    rw [eb.2.1, ec.2.1, ed.2.1] at c2
    rw [eb.2.2, ec.2.2, ed.2.2] at c3
    have h1 : y * B.x + t * C.x + s * E.x = 0 := by grind
    have h2 : y * B.y + t * C.y + s * E.y = 0 := by grind
    have h3 : y * B.z + t * C.z + s * E.z = 0 := by grind
    have hy : y = 0 := mul0 h (by simp only [dotS, crossP]; grind)
    have htt : t = 0 := mul0 h (by simp only [dotS, crossP]; grind)
    have hs : s = 0 := mul0 h (by simp only [dotS, crossP]; grind)
    intro z hz; simp at hz; omega
/-- The rank tells it. -/
theorem rank_full {T : List Pt} (h1 : 1 ≤ T.length) (h4 : T.length ≤ 4) : rankI T = T.length - 1 ↔ dI T ≠ 0 := by
  match T, h1, h4 with
  | [a], _, _ => simp [rankI, sprd, raisesB, dI1]
  | [a, b], _, _ =>
    rw [dI2_eq]
    by_cases hb : b = a
    · subst hb; simp [rankI, sprd, raisesB, subP, sqS, Pt.sp]
    · have : sqS (subP b a).sp ≠ 0 := fun h => hb (sub_eq0 (sqS_zero h))
      simp [rankI, sprd, raisesB, hb, this]
  | [a, b, c], _, _ =>
    rw [dI3_eq]
    by_cases hb : b = a
    · subst hb
      have e : sqS (crossP (subP b b) (subP c b)) = 0 := by simp [subP, sqS, crossP]
      rw [e]
      simp only [rankI, sprd, raisesB]
      by_cases hc : c = b <;> simp [hc]
    · by_cases hc : crossP (subP b a) (subP c a) = ⟨0, 0, 0⟩
      · simp [rankI, sprd, raisesB, hb, hc, sqS]
      · have : sqS (crossP (subP b a) (subP c a)) ≠ 0 := fun h => hc (sqS_zero h)
        simp [rankI, sprd, raisesB, hb, hc, this]
  | [a, b, c, d], _, _ =>
    rw [dI4_eq]
    by_cases hb : b = a
    · subst hb
      have e : dotS (crossP (subP c b) (subP d b)) (subP b b) = 0 := by simp [subP, dotS]
      rw [e]
      simp only [rankI, sprd, raisesB]
      by_cases hc : c = b
      · by_cases hd : d = b <;> simp [hc, hd]
      · by_cases hd : crossP (subP c b) (subP d b) = ⟨0, 0, 0⟩ <;> simp [hc, hd]
    · by_cases hc : crossP (subP b a) (subP c a) = ⟨0, 0, 0⟩
      · have e : dotS (crossP (subP c a) (subP d a)) (subP b a) = 0 := by
          have : dotS (crossP (subP c a) (subP d a)) (subP b a) = dotS (crossP (subP b a) (subP c a)) (subP d a) := by simp only [dotS, crossP]; grind
          rw [this, hc]; simp [dotS]
        rw [e]
        simp only [rankI, sprd, raisesB]
        by_cases hd : crossP (subP b a) (subP d a) = ⟨0, 0, 0⟩ <;> simp [hb, hc, hd]
      · by_cases hd : dotS (crossP (subP c a) (subP d a)) (subP b a) = 0
        · simp [rankI, sprd, raisesB, hb, hc, hd]
        · simp [rankI, sprd, raisesB, hb, hc, hd]
/-! ## The weights of a point are its own -/
theorem comb_level_sq {v : List Int} {T : List Pt} {e : Int} (hv : v.length = T.length) (h0 : tot v = 0) (hl : ∀ q ∈ T, dotS (comb v T) q = e) : comb v T = ⟨0, 0, 0⟩ := by
  have := comb_eq (v := comb v T) hv hl
  rw [h0, Int.mul_zero] at this
  exact sqS_zero this
theorem own_weights {T : List Pt} (h1 : 1 ≤ T.length) (h4 : T.length ≤ 4) (ha : AI T) {u : List Int} (hu : u.length = T.length) {b : Int} (hl : ∀ q ∈ T, dotS (comb u T) q = b) :
    (∀ (i : Nat) (x y : Int), u[i]? = some x → (wI T)[i]? = some y → dI T * x = tot u * y) ∧
    dI T * (comb u T).x = tot u * (nI T).x ∧ dI T * (comb u T).y = tot u * (nI T).y ∧ dI T * (comb u T).z = tot u * (nI T).z := by
  have hw : (wI T).length = T.length := wI_len (by intro h; subst h; simp at h1)
  have huw : u.length = (wI T).length := by omega
  have hm := mix_comb (dI T) (-tot u) u (wI T) T huw hw
  have ht : tot (mix (dI T) (-tot u) u (wI T)) = 0 := by rw [mix_tot _ _ _ _ huw, wI_tot]; grind
  have hlen := mix_len (dI T) (-tot u) u (wI T) huw
  have hz := comb_level_sq (v := mix (dI T) (-tot u) u (wI T)) (T := T) (e := dI T * b - tot u * dotS (nI T) (ptI T 0)) (by omega) ht (by
    intro q hq
    rw [hm, ← hl q hq, ← nI_level h1 h4 q hq]
    simp only [dotS, nI]; grind)
  refine ⟨fun i x y hx hy => ?_, ?_⟩
  · have := ha _ (by omega) ht hz _ (List.mem_of_getElem? (mix_get (dI T) (-tot u) u (wI T) huw i x y hx hy))
    grind
  · rw [hm] at hz
    simp only [Sp.mk.injEq] at hz
    show _ = tot u * (comb (wI T) T).x ∧ _ = tot u * (comb (wI T) T).y ∧ _ = tot u * (comb (wI T) T).z
    refine ⟨?_, ?_, ?_⟩ <;> grind

/-! ## A point less -/
theorem erase_len {α : Type} : ∀ (l : List α) (i : Nat), i < l.length → (l.eraseIdx i).length + 1 = l.length := fun l i h => by
  rw [List.length_eraseIdx, if_pos h]; omega
theorem erase0 : ∀ {u : List Int} {T : List Pt} {i : Nat}, u.length = T.length → u[i]? = some 0 → tot (u.eraseIdx i) = tot u ∧ comb (u.eraseIdx i) (T.eraseIdx i) = comb u T
  | x :: u, q :: T, 0, _, h => by
    simp at h; subst h
    simp [tot, comb, addW]
  | x :: u, q :: T, i + 1, hl, h => by
    have ih := erase0 (u := u) (T := T) (i := i) (Nat.succ.inj hl) (by simpa using h)
    simp [List.eraseIdx, tot, comb, ih.1, ih.2]
  | [], _, _, _, h => by simp at h
  | _ :: _, [], _, h, _ => by cases h
theorem unerase : ∀ {T : List Pt} {i : Nat} {v : List Int}, i < T.length → v.length + 1 = T.length → ∃ v' : List Int, v'.length = T.length ∧ tot v' = tot v ∧ comb v' T = comb v (T.eraseIdx i) ∧ ∀ x ∈ v, x ∈ v'
  | q :: T, 0, v, _, h => ⟨0 :: v, by simpa using h, by simp [tot], by simp [comb, addW], fun x hx => by simp [hx]⟩
  | q :: T, i + 1, x :: v, hi, h => by
    obtain ⟨v', h1, h2, h3, h4⟩ := unerase (T := T) (i := i) (v := v) (by simpa using hi) (by simpa using h)
    refine ⟨x :: v', by simpa using h1, by simp [tot, h2], by simp [comb, h3], fun y hy => ?_⟩
    simp at hy ⊢
    exact hy.imp_right (h4 y)
  | q :: T, i + 1, [], hi, h => by simp at hi h; subst h; simp at hi
theorem AI.erase {T : List Pt} (h : AI T) {i : Nat} (hi : i < T.length) : AI (T.eraseIdx i) := by
  intro v hv ht hc x hx
  have := erase_len T i hi
  obtain ⟨v', h1, h2, h3, h4⟩ := unerase (T := T) (i := i) (v := v) hi (by omega)
  exact h v' h1 (by omega) (by rw [h3, hc]) x (h4 x hx)

/-- Fractions. -/
theorem fle_trans {a b c d e f : Int} (hd : 0 < d) (hb : 0 ≤ b) (hf : 0 ≤ f) (h : a * d ≤ c * b) (k : c * f ≤ e * d) : a * f ≤ e * b := by
  have h1 := Int.mul_le_mul_of_nonneg_right h hf
  have h2 := Int.mul_le_mul_of_nonneg_right k hb
  have : d * (a * f) ≤ d * (e * b) := by
    have e1 : d * (a * f) = a * d * f := by grind
    have e2 : d * (e * b) = e * d * b := by grind
    have e3 : c * b * f = c * f * b := by grind
    omega
  exact Int.le_of_mul_le_mul_left this hd
theorem flt_trans {a b c d e f : Int} (hd : 0 < d) (hb : 0 < b) (hf : 0 ≤ f) (h : a * d ≤ c * b) (k : c * f < e * d) : a * f < e * b := by
  have h1 := Int.mul_le_mul_of_nonneg_right h hf
  have h2 := Int.mul_lt_mul_of_pos_right k hb
  have : d * (a * f) < d * (e * b) := by
    have e1 : d * (a * f) = a * d * f := by grind
    have e2 : d * (e * b) = e * d * b := by grind
    have e3 : c * b * f = c * f * b := by grind
    omega
  exact Int.lt_of_mul_lt_mul_left this (Int.le_of_lt hd)
theorem argmin : ∀ {u w : List Int}, u.length = w.length → u ≠ [] → (∀ x ∈ u, 0 < x) → ∃ (i : Nat) (x y : Int), u[i]? = some x ∧ w[i]? = some y ∧ ∀ (j : Nat) (p q : Int), u[j]? = some p → w[j]? = some q → y * p ≤ q * x
  | [x], [y], _, _, _ => ⟨0, x, y, rfl, rfl, fun j p q hp hq => by
      cases j with
      | zero => simp at hp hq; subst hp hq; exact Int.le_refl _
      | succ j => simp at hp⟩
  | x :: x' :: u, y :: y' :: w, h, _, hu => by
    obtain ⟨i, p, q, h1, h2, h3⟩ := argmin (u := x' :: u) (w := y' :: w) (by simpa using h) (by simp) (fun z hz => hu z (List.mem_cons_of_mem _ hz))
    have hx := hu x (by simp)
    have hp := hu p (List.mem_cons_of_mem _ (List.mem_of_getElem? h1))
    rcases Int.le_total (y * p) (q * x) with hc | hc
    · refine ⟨0, x, y, rfl, rfl, fun j a b ha hb => ?_⟩
      cases j with
      | zero => simp at ha hb; subst ha hb; exact Int.le_refl _
      | succ j =>
        have ha' : (x' :: u)[j]? = some a := by simpa using ha
        exact fle_trans hp (Int.le_of_lt hx) (Int.le_of_lt (hu a (List.mem_cons_of_mem _ (List.mem_of_getElem? ha')))) hc (h3 j a b ha' (by simpa using hb))
    · refine ⟨i + 1, p, q, by simpa using h1, by simpa using h2, fun j a b ha hb => ?_⟩
      cases j with
      | zero => simp at ha hb; subst ha hb; exact hc
      | succ j => exact h3 j a b (by simpa using ha) (by simpa using hb)
  | [], _, _, h, _ => absurd rfl h
  | [_], [], h, _, _ => by cases h
  | [_], _ :: _ :: _, h, _, _ => by simp at h
  | _ :: _ :: _, [], h, _, _ => by cases h
  | _ :: _ :: _, [_], h, _, _ => by simp at h

/-! ## Simplices -/
structure Good (S : List Pt) : Prop where
  ne : 1 ≤ S.length
  le : S.length ≤ 4
  ai : AI S
  pos : ∀ x ∈ wI S, 0 < x
theorem Good.dpos {S : List Pt} (h : Good S) : 0 < dI S := h.ai.pos h.ne h.le
theorem nz_of_len {T : List Pt} (h : 1 ≤ T.length) : T ≠ [] := by intro h'; subst h'; simp at h

theorem sq_mix (Z N : Sp) (x y : Int) : sqS ⟨y * Z.x + x * N.x, y * Z.y + x * N.y, y * Z.z + x * N.z⟩ = y * y * sqS Z + 2 * (x * y * dotV N Z) + x * x * sqS N := by
  simp only [sqS, dotV]; grind
/-- Of points in general position, and a point of their body: a simplex that comes as near to the middle. -/
theorem wolfe : ∀ (n : Nat) (T : List Pt) (u : List Int), T.length = n → n ≤ 4 → AI T → u.length = T.length → (∀ x ∈ u, 0 ≤ x) → 0 < tot u →
    ∃ S, S.Sublist T ∧ Good S ∧ sqS (nI S) * (tot u * tot u) ≤ sqS (comb u T) * (dI S * dI S) := by
  intro n
  induction n with
  | zero =>
    intro T u hT _ _ hu _ hp
    have : u = [] := List.length_eq_zero_iff.1 (by omega)
    subst this; simp [tot] at hp
  | succ n ih =>
    intro T u hT h4 ha hu h0 hp
    have h1 : 1 ≤ T.length := by omega
    have hTn := nz_of_len h1
    have hw := wI_len hTn
    -- some weight is nothing: without that point
    have less : ∀ (v : List Int) (i : Nat), v.length = T.length → v[i]? = some 0 → (∀ x ∈ v, 0 ≤ x) → 0 < tot v → sqS (comb v T) * (tot u * tot u) ≤ sqS (comb u T) * (tot v * tot v) →
        ∃ S, S.Sublist T ∧ Good S ∧ sqS (nI S) * (tot u * tot u) ≤ sqS (comb u T) * (dI S * dI S) := by
      intro v i hv hi hv0 hvp hle
      have hil : i < v.length := (List.getElem?_eq_some_iff.1 hi).1
      obtain ⟨e1, e2⟩ := erase0 (T := T) hv hi
      have l1 := erase_len v i hil
      have l2 := erase_len T i (by omega)
      obtain ⟨S, s1, s2, s3⟩ := ih (T.eraseIdx i) (v.eraseIdx i) (by omega) (by omega) (ha.erase (by omega)) (by omega) (fun x hx => hv0 x (List.mem_of_mem_eraseIdx hx)) (by omega)
      refine ⟨S, s1.trans (List.eraseIdx_sublist T i), s2, ?_⟩
      rw [e1, e2] at s3
      have hd := s2.dpos
      exact fle_trans (d := tot v * tot v) (Int.mul_pos hvp hvp) (Int.le_of_lt (Int.mul_pos hd hd)) (Int.le_of_lt (Int.mul_pos hp hp)) s3 hle
    by_cases hz : (0 : Int) ∈ u
    · obtain ⟨i, hi⟩ := List.mem_iff_getElem?.1 hz
      exact less u i hu hi h0 hp (Int.le_refl _)
    · have hup : ∀ x ∈ u, 0 < x := fun x hx => by
        have := h0 x hx
        rcases Int.lt_or_eq_of_le this with h | h
        · exact h
        · subst h; exact absurd hx hz
      have hd := ha.pos h1 (by omega)
      have hl := nI_level h1 (by omega)
      have c1 : dotV (nI T) (comb u T) = dotS (nI T) (ptI T 0) * tot u := comb_eq hu hl
      have c2 : sqS (nI T) = dotS (nI T) (ptI T 0) * dI T := by
        have := comb_eq (v := nI T) (u := wI T) hw hl
        rw [wI_tot] at this; exact this
      -- the nearest of the plane is no further off
      have hnear : sqS (nI T) * (tot u * tot u) ≤ sqS (comb u T) * (dI T * dI T) := by
        have := sqS_nn ⟨dI T * (comb u T).x + -tot u * (nI T).x, dI T * (comb u T).y + -tot u * (nI T).y, dI T * (comb u T).z + -tot u * (nI T).z⟩
        rw [sq_mix, c1, c2] at this
        rw [c2]
        grind
      by_cases hwp : ∀ x ∈ wI T, 0 < x
      · exact ⟨T, List.Sublist.refl T, ⟨h1, by omega, ha, hwp⟩, hnear⟩
      · obtain ⟨y0, hy0, hy0n⟩ : ∃ y ∈ wI T, ¬ 0 < y := by
          refine Classical.byContradiction fun hne => hwp fun x hx => Classical.byContradiction fun hx0 => hne ⟨x, hx, hx0⟩
        obtain ⟨i, x, y, hx, hy, hmin⟩ := argmin (u := u) (w := wI T) (by omega) (by intro h'; subst h'; simp at hu; omega) hup
        obtain ⟨j, hj⟩ := List.mem_iff_getElem?.1 hy0
        have hjl : j < u.length := by have := (List.getElem?_eq_some_iff.1 hj).1; omega
        have hxp := hup x (List.mem_of_getElem? hx)
        have hyn : y ≤ 0 := by
          have h2 := hmin j u[j] y0 (List.getElem?_eq_getElem hjl) hj
          have h3 := hup u[j] (List.getElem_mem hjl)
          have h4' : y0 * x ≤ 0 := Int.mul_nonpos_of_nonpos_of_nonneg (by omega) (by omega)
          rcases Int.lt_or_le 0 y with hc | hc
          · have := Int.mul_pos hc h3; omega
          · exact hc
        have huw : u.length = (wI T).length := by omega
        have ml := mix_len (-y) x u (wI T) huw
        have mt := mix_tot (-y) x u (wI T) huw
        have mc := mix_comb (-y) x u (wI T) T huw hw
        rw [wI_tot] at mt
        have hs' : 0 < -y * tot u + x * dI T := by
          have h1 := Int.mul_pos hxp hd
          have h2 := Int.mul_nonneg (show 0 ≤ -y by omega) (Int.le_of_lt hp)
          omega
        refine less (mix (-y) x u (wI T)) i (by omega) (by rw [mix_get (-y) x u (wI T) huw i x y hx hy]; congr 1; grind) (fun z hz => ?_) (by rw [mt]; exact hs') ?_
        · obtain ⟨k, p, q, k1, k2, rfl⟩ := mix_mem huw hz
          have := hmin k p q k1 k2
          grind
        · rw [mc, mt]
          have := sq_mix (comb u T) (nI T) x (-y)
          rw [show comb (wI T) T = nI T from rfl, this, c1]
          have hc : 0 ≤ sqS (comb u T) * dI T - tot u * (dotS (nI T) (ptI T 0) * tot u) := by
            refine Int.le_of_mul_le_mul_left (a := dI T) ?_ hd
            rw [c2] at hnear
            have e : dI T * (sqS (comb u T) * dI T - tot u * (dotS (nI T) (ptI T 0) * tot u)) = sqS (comb u T) * (dI T * dI T) - dotS (nI T) (ptI T 0) * dI T * (tot u * tot u) := by grind
            rw [e]; omega
          rw [c2] at hnear ⊢
          have k1 := Int.mul_nonneg (Int.mul_nonneg (Int.le_of_lt hxp) (Int.le_of_lt hxp)) (show 0 ≤ sqS (comb u T) * (dI T * dI T) - dotS (nI T) (ptI T 0) * dI T * (tot u * tot u) by omega)
          have k2 := Int.mul_nonneg (Int.mul_nonneg (Int.mul_nonneg (Int.le_of_lt hxp) (show 0 ≤ -y by omega)) (Int.le_of_lt hp)) hc
          grind
/-! ## The nearest simplex of some points -/
theorem argminL {α : Type} (P : α → Prop) (f g : α → Int) (hg : ∀ x, P x → 0 < g x) : ∀ (L : List α), (∃ x ∈ L, P x) → ∃ x ∈ L, P x ∧ ∀ y ∈ L, P y → f x * g y ≤ f y * g x
  | [], h => by obtain ⟨x, hx, _⟩ := h; cases hx
  | a :: L, h => by
    by_cases hL : ∃ x ∈ L, P x
    · obtain ⟨x, hx, px, hmin⟩ := argminL P f g hg L hL
      by_cases ha : P a ∧ f a * g x ≤ f x * g a
      · obtain ⟨pa, hle⟩ := ha
        refine ⟨a, by simp, pa, fun y hy py => ?_⟩
        rcases List.mem_cons.1 hy with rfl | hy
        · exact Int.le_refl _
        · exact fle_trans (hg x px) (Int.le_of_lt (hg a pa)) (Int.le_of_lt (hg y py)) hle (hmin y hy py)
      · refine ⟨x, by simp [hx], px, fun y hy py => ?_⟩
        rcases List.mem_cons.1 hy with rfl | hy
        · have : ¬ f y * g x ≤ f x * g y := fun h => ha ⟨py, h⟩
          omega
        · exact hmin y hy py
    · obtain ⟨x, hx, px⟩ := h
      rcases List.mem_cons.1 hx with rfl | hx
      · refine ⟨x, by simp, px, fun y hy py => ?_⟩
        rcases List.mem_cons.1 hy with rfl | hy
        · exact Int.le_refl _
        · exact absurd ⟨y, hy, py⟩ hL
      · exact absurd ⟨x, hx, px⟩ hL
def tups (l : List Pt) : Nat → List (List Pt)
  | 0 => [[]]
  | n + 1 => l.flatMap fun a => (tups l n).map (a :: ·)
theorem mem_tups (l : List Pt) : ∀ (S : List Pt), (∀ q ∈ S, q ∈ l) → S ∈ tups l S.length
  | [], _ => by simp [tups]
  | a :: S, h => by
    have ih := mem_tups l S fun q hq => h q (by simp [hq])
    simp only [tups, List.length_cons, List.mem_flatMap, List.mem_map]
    exact ⟨a, h a (by simp), S, ih, rfl⟩
def cands (l : List Pt) : List (List Pt) := tups l 1 ++ (tups l 2 ++ (tups l 3 ++ tups l 4))
theorem mem_cands {l S : List Pt} (h : ∀ q ∈ S, q ∈ l) (h1 : 1 ≤ S.length) (h4 : S.length ≤ 4) : S ∈ cands l := by
  have := mem_tups l S h
  have : S.length = 1 ∨ S.length = 2 ∨ S.length = 3 ∨ S.length = 4 := by omega
  simp only [cands, List.mem_append]
  rcases this with h | h | h | h <;> rw [h] at this <;> simp [this]
theorem good1 (a : Pt) : Good [a] := ⟨by simp, by simp, AI_of (by simp) (by simp) (by rw [dI1]; decide), by rw [wI1]; simp⟩
/-- Nothing of them is past it. -/
def Ahead (l : List Pt) (N : Sp) (d : Int) : Prop := ∀ p ∈ l, sqS N ≤ dotS N p * d
theorem det_zero {x y z a b c d e f g h i : Int} (hD : (e * i - f * h) * a + (f * g - d * i) * b + (d * h - e * g) * c ≠ 0) (k1 : x * a + y * b + z * c = 0) (k2 : x * d + y * e + z * f = 0) (k3 : x * g + y * h + z * i = 0) : x = 0 ∧ y = 0 ∧ z = 0 :=
  ⟨mul0 hD (by grind), mul0 hD (by grind), mul0 hD (by grind)⟩
theorem four_zero {S : List Pt} (h : AI S) (h4 : S.length = 4) : nI S = ⟨0, 0, 0⟩ := by
  match S, h4 with
  | [a, b, c, d], _ =>
    have hl := nI_level (T := [a, b, c, d]) (by simp) (by simp)
    have hb := hl b (by simp)
    have hc := hl c (by simp)
    have hd := hl d (by simp)
    have h4 := h.four
    generalize nI [a, b, c, d] = N at *
    have e : ptI [a, b, c, d] 0 = a := rfl
    rw [e] at hb hc hd
    have kb : dotS N (subP b a) = 0 := by rw [dotS_sub]; omega
    have kc : dotS N (subP c a) = 0 := by rw [dotS_sub]; omega
    have kd : dotS N (subP d a) = 0 := by rw [dotS_sub]; omega
    generalize subP b a = B at *
    generalize subP c a = C at *
    generalize subP d a = E at *
    cases N
    simp only [dotS, crossP] at *
    simp only [Sp.mk.injEq]
    exact det_zero h4 kb kc kd
theorem sub_in {S T l : List Pt} (h : S.Sublist T) (hT : ∀ q ∈ T, q ∈ l) : ∀ q ∈ S, q ∈ l := fun q hq => hT q (h.mem hq)
theorem best_any {l : List Pt} (hl : l ≠ []) : ∃ S, Good S ∧ (∀ q ∈ S, q ∈ l) ∧ Ahead l (nI S) (dI S) := by
  obtain ⟨a, ha⟩ : ∃ a, a ∈ l := by
    cases l with
    | nil => exact absurd rfl hl
    | cons a l => exact ⟨a, by simp⟩
  have hgp : ∀ S : List Pt, (Good S ∧ ∀ q ∈ S, q ∈ l) → 0 < dI S * dI S := fun S h => Int.mul_pos h.1.dpos h.1.dpos
  obtain ⟨S, _, ⟨hS, hSl⟩, hmin⟩ := argminL (fun S => Good S ∧ ∀ q ∈ S, q ∈ l) (fun S => sqS (nI S)) (fun S => dI S * dI S) hgp (cands l) ⟨[a], mem_cands (by simpa using ha) (by simp) (by simp), good1 a, by simpa using ha⟩
  refine ⟨S, hS, hSl, fun p hp => ?_⟩
  refine Classical.byContradiction fun hc => ?_
  have hd := hS.dpos
  have hlev := nI_level hS.ne hS.le
  have hSn := nz_of_len hS.ne
  have hw := wI_len hSn
  have c2 : sqS (nI S) = dotS (nI S) (ptI S 0) * dI S := by
    have := comb_eq (v := nI S) (u := wI S) hw hlev
    rw [wI_tot] at this; exact this
  have h3 : S.length ≤ 3 := by
    refine Classical.byContradiction fun h => hc ?_
    rw [four_zero hS.ai (by have := hS.le; omega)]
    simp [sqS, dotS]
  have hai : AI (p :: S) := by
    intro v hv ht hcb
    cases v with
    | nil => simp at hv
    | cons t v =>
      have hv' : v.length = S.length := by simpa using hv
      have k1 := comb_eq (v := nI S) hv' hlev
      have k2 : dotV (nI S) (comb (t :: v) (p :: S)) = 0 := by rw [hcb]; simp [dotV]
      simp only [comb, dotV_addW, k1] at k2
      simp only [tot] at ht
      have ht0 : t = 0 := by
        have : (dotS (nI S) p - dotS (nI S) (ptI S 0)) * t = 0 := by
          have : tot v = -t := by omega
          rw [this] at k2; grind
        rcases Int.mul_eq_zero.1 this with h | h
        · exfalso; apply hc; rw [c2, show dotS (nI S) p = dotS (nI S) (ptI S 0) by omega]; exact Int.le_refl _
        · exact h
      subst ht0
      have := hS.ai v hv' (by omega) (by simp only [comb, addW, Int.zero_mul, Int.add_zero] at hcb; exact hcb)
      intro x hx
      rcases List.mem_cons.1 hx with h | h
      · exact h
      · exact this x h
  -- a point between the two
  let Mm := dI S * dI S * sqS p.sp
  have hM : 0 ≤ Mm := Int.mul_nonneg (Int.le_of_lt (Int.mul_pos hd hd)) (sqS_nn _)
  have scale : ∀ {v : List Int} {T : List Pt}, v.length = T.length → tot (mix Mm 0 v v) = Mm * tot v ∧ comb (mix Mm 0 v v) T = ⟨Mm * (comb v T).x, Mm * (comb v T).y, Mm * (comb v T).z⟩ := by
    intro v T h
    rw [mix_tot _ _ _ _ rfl, mix_comb _ _ _ _ _ rfl h]
    simp
  obtain ⟨s1, s2⟩ := scale hw
  have ml := mix_len Mm 0 (wI S) (wI S) rfl
  rw [wI_tot] at s1
  have hMd := Int.mul_nonneg hM (Int.le_of_lt hd)
  obtain ⟨S', t1, t2, t3⟩ := wolfe (S.length + 1) (p :: S) (dI S :: mix Mm 0 (wI S) (wI S)) (by simp) (by omega) hai (by simp [ml, hw]) (fun x hx => by
    rcases List.mem_cons.1 hx with rfl | hx
    · exact Int.le_of_lt hd
    · obtain ⟨i, y, z, h1, h2, rfl⟩ := mix_mem rfl hx
      have := hS.pos y (List.mem_of_getElem? h1)
      have := Int.mul_nonneg hM (Int.le_of_lt this)
      omega) (by simp only [tot, s1]; omega)
  have ht' : tot (dI S :: mix Mm 0 (wI S) (wI S)) = (Mm + 1) * dI S := by simp only [tot, s1]; grind
  have hc' : comb (dI S :: mix Mm 0 (wI S) (wI S)) (p :: S) = ⟨Mm * (nI S).x + dI S * p.sp.x, Mm * (nI S).y + dI S * p.sp.y, Mm * (nI S).z + dI S * p.sp.z⟩ := by
    simp only [comb, s2, addW]; rfl
  rw [ht', hc', sq_mix] at t3
  have hin : ∀ q ∈ S', q ∈ l := sub_in t1 (by intro q hq; rcases List.mem_cons.1 hq with rfl | h; exact hp; exact hSl q h)
  have h4' : S'.length ≤ 4 := t2.le
  have hbest := hmin S' (mem_cands hin t2.ne h4') ⟨t2, hin⟩
  have e1 : dotV p.sp (nI S) = dotS (nI S) p := by simp only [dotV, dotS, Pt.sp]; grind
  rw [e1] at t3
  have hd' := t2.dpos
  have hlt : dotS (nI S) p * dI S < sqS (nI S) := by omega
  have hNpos : 0 < sqS (nI S) := by
    rcases Int.lt_or_eq_of_le (sqS_nn (nI S)) with h | h
    · exact h
    · have := sqS_zero h.symm
      rw [this] at hlt; simp [dotS, sqS] at hlt
  have hk : (Mm * Mm * sqS (nI S) + 2 * (dI S * Mm * dotS (nI S) p) + dI S * dI S * sqS p.sp) * (dI S * dI S) < sqS (nI S) * ((Mm + 1) * dI S * ((Mm + 1) * dI S)) := by
    have hx : Mm * Mm * sqS (nI S) + 2 * (dI S * Mm * dotS (nI S) p) + dI S * dI S * sqS p.sp < sqS (nI S) * ((Mm + 1) * (Mm + 1)) := by
      have g1 : 0 ≤ Mm * (sqS (nI S) - dotS (nI S) p * dI S - 1) := Int.mul_nonneg hM (by omega)
      have e : dI S * dI S * sqS p.sp = Mm := rfl
      rw [e]
      have : sqS (nI S) * ((Mm + 1) * (Mm + 1)) - (Mm * Mm * sqS (nI S) + 2 * (dI S * Mm * dotS (nI S) p) + Mm) = 2 * (Mm * (sqS (nI S) - dotS (nI S) p * dI S - 1)) + Mm + sqS (nI S) := by grind
      omega
    have := Int.mul_lt_mul_of_pos_right hx (Int.mul_pos hd hd)
    have e : sqS (nI S) * ((Mm + 1) * dI S * ((Mm + 1) * dI S)) = sqS (nI S) * ((Mm + 1) * (Mm + 1)) * (dI S * dI S) := by grind
    omega
  have hpos2 : 0 < (Mm + 1) * dI S * ((Mm + 1) * dI S) := by
    have : 0 < (Mm + 1) * dI S := Int.mul_pos (by omega) hd
    exact Int.mul_pos this this
  have := flt_trans hpos2 (Int.mul_pos hd' hd') (Int.le_of_lt (Int.mul_pos hd hd)) t3 hk
  omega
/-! ## In any order -/
theorem perm_weights {S S' : List Pt} (h : S.Perm S') : ∀ u : List Int, u.length = S.length → ∃ u' : List Int, u'.length = S'.length ∧ tot u' = tot u ∧ comb u' S' = comb u S ∧ ∀ x, x ∈ u' ↔ x ∈ u := by
  induction h with
  | nil => exact fun u hu => ⟨u, hu, rfl, rfl, fun _ => Iff.rfl⟩
  | cons a h ih =>
    intro u hu
    cases u with
    | nil => simp at hu
    | cons x u =>
      obtain ⟨u', h1, h2, h3, h4⟩ := ih u (by simpa using hu)
      refine ⟨x :: u', by simpa using h1, by simp [tot, h2], by simp [comb, h3], fun y => by simp [h4 y]⟩
  | swap a b l =>
    intro u hu
    match u, hu with
    | x :: y :: u, hu =>
      refine ⟨y :: x :: u, by simpa using hu, by simp only [tot]; omega, by simp only [comb, addW, Sp.mk.injEq]; omega, fun z => by simp; grind⟩
  | trans _ _ ih1 ih2 =>
    intro u hu
    obtain ⟨v, h1, h2, h3, h4⟩ := ih1 u hu
    obtain ⟨t, k1, k2, k3, k4⟩ := ih2 v h1
    exact ⟨t, k1, by omega, by rw [k3, h3], fun x => (k4 x).trans (h4 x)⟩
theorem AI.perm {S S' : List Pt} (h : S.Perm S') (ha : AI S) : AI S' := by
  intro u hu ht hc x hx
  obtain ⟨u', h1, h2, h3, h4⟩ := perm_weights h.symm u hu
  exact ha u' h1 (by omega) (by rw [h3, hc]) x ((h4 x).2 hx)
/-- Two of the same point, by divisors. -/
def SameN (N : Sp) (d : Int) (M : Sp) (e : Int) : Prop := e * N.x = d * M.x ∧ e * N.y = d * M.y ∧ e * N.z = d * M.z
theorem Good.perm {S S' : List Pt} (h : S.Perm S') (hg : Good S) : Good S' ∧ SameN (nI S) (dI S) (nI S') (dI S') := by
  have hlen := h.length_eq
  have n1 : 1 ≤ S'.length := by have := hg.ne; omega
  have n4 : S'.length ≤ 4 := by have := hg.le; omega
  have ha := hg.ai.perm h
  obtain ⟨u, h1, h2, h3, h4⟩ := perm_weights h (wI S) (wI_len (nz_of_len hg.ne))
  rw [wI_tot] at h2
  have hlev : ∀ q ∈ S', dotS (comb u S') q = dotS (nI S) (ptI S 0) := fun q hq => by
    rw [h3]; exact nI_level hg.ne hg.le q (h.mem_iff.2 hq)
  obtain ⟨k1, k2, k3, k4⟩ := own_weights n1 n4 ha h1 hlev
  rw [h2] at k1 k2 k3 k4
  rw [h3] at k2 k3 k4
  have hd := hg.dpos
  have hd' := ha.pos n1 n4
  refine ⟨⟨n1, n4, ha, fun y hy => ?_⟩, k2, k3, k4⟩
  obtain ⟨i, hi⟩ := List.mem_iff_getElem?.1 hy
  have hil := (List.getElem?_eq_some_iff.1 hi).1
  have hw := wI_len (nz_of_len n1)
  have hiu : i < u.length := by omega
  have e := k1 i u[i] y (List.getElem?_eq_getElem hiu) hi
  have hx := hg.pos u[i] ((h4 _).1 (List.getElem_mem hiu))
  have := Int.mul_pos hd' hx
  rw [e] at this
  exact Int.pos_of_mul_pos_right_of_nonneg' hd this
where
  Int.pos_of_mul_pos_right_of_nonneg' {a b : Int} (ha : 0 < a) (h : 0 < a * b) : 0 < b := by
    rcases Int.lt_or_le 0 b with hb | hb
    · exact hb
    · have := Int.mul_nonpos_of_nonneg_of_nonpos (Int.le_of_lt ha) hb; omega
theorem SameN.sq {N M : Sp} {d e : Int} (h : SameN N d M e) : e * e * sqS N = d * d * sqS M := by
  obtain ⟨a, b, c⟩ := h
  have e1 : (e * N.x) * (e * N.x) = (d * M.x) * (d * M.x) := by rw [a]
  have e2 : (e * N.y) * (e * N.y) = (d * M.y) * (d * M.y) := by rw [b]
  have e3 : (e * N.z) * (e * N.z) = (d * M.z) * (d * M.z) := by rw [c]
  simp only [sqS]; grind
theorem SameN.dot {N M : Sp} {d e : Int} (h : SameN N d M e) (p : Pt) : e * dotS N p = d * dotS M p := by
  obtain ⟨a, b, c⟩ := h
  simp only [dotS]
  have e1 : e * N.x * p.x = d * M.x * p.x := by rw [a]
  have e2 : e * N.y * p.y = d * M.y * p.y := by rw [b]
  have e3 : e * N.z * p.z = d * M.z * p.z := by rw [c]
  grind
theorem SameN.symm {N M : Sp} {d e : Int} (h : SameN N d M e) : SameN M e N d := ⟨h.1.symm, h.2.1.symm, h.2.2.symm⟩
/-- The same point has the same ahead of it. -/
theorem SameN.past {N M : Sp} {d e : Int} (h : SameN N d M e) (hd : 0 < d) (he : 0 < e) {p : Pt} : sqS N ≤ dotS N p * d ↔ sqS M ≤ dotS M p * e := by
  have main : ∀ {N M : Sp} {d e : Int}, SameN N d M e → 0 < d → 0 < e → sqS N ≤ dotS N p * d → sqS M ≤ dotS M p * e := by
    intro N M d e h hd he hp
    have h1 := h.sq
    have h2 := h.dot p
    refine Int.le_of_mul_le_mul_left (a := d * d) ?_ (Int.mul_pos hd hd)
    rw [← h1]
    have := Int.mul_le_mul_of_nonneg_left hp (Int.le_of_lt (Int.mul_pos he he))
    have e1 : d * d * (dotS M p * e) = e * e * (dotS N p * d) := by
      have : d * d * (dotS M p * e) = d * e * (d * dotS M p) := by grind
      rw [this, ← h2]; grind
    rw [e1]; exact this
  exact ⟨main h hd he, main h.symm he hd⟩
theorem SameN.ahead {N M : Sp} {d e : Int} {l : List Pt} (h : SameN N d M e) (hd : 0 < d) (he : 0 < e) (ha : Ahead l N d) : Ahead l M e := fun p hp => (h.past hd he).1 (ha p hp)
/-- There is but one nearest point. -/
theorem same_of_ahead {S S' : List Pt} (h : Good S) (h' : Good S') (h1 : Ahead S' (nI S) (dI S)) (h2 : Ahead S (nI S') (dI S')) : SameN (nI S) (dI S) (nI S') (dI S') := by
  have hd := h.dpos
  have hd' := h'.dpos
  have k1 := comb_ge (v := nI S) (a := dI S) (b := sqS (nI S)) (u := wI S') (T := S') (wI_len (nz_of_len h'.ne)) (fun x hx => Int.le_of_lt (h'.pos x hx)) h1
  have k2 := comb_ge (v := nI S') (a := dI S') (b := sqS (nI S')) (u := wI S) (T := S) (wI_len (nz_of_len h.ne)) (fun x hx => Int.le_of_lt (h.pos x hx)) h2
  rw [wI_tot, show comb (wI S') S' = nI S' from rfl] at k1
  rw [wI_tot, show comb (wI S) S = nI S from rfl] at k2
  have hs := sqS_nn ⟨dI S' * (nI S).x + -dI S * (nI S').x, dI S' * (nI S).y + -dI S * (nI S').y, dI S' * (nI S).z + -dI S * (nI S').z⟩
  have hz : sqS ⟨dI S' * (nI S).x + -dI S * (nI S').x, dI S' * (nI S).y + -dI S * (nI S').y, dI S' * (nI S).z + -dI S * (nI S').z⟩ = 0 := by
    have e := sq_mix (nI S) (nI S') (-dI S) (dI S')
    rw [e] at hs ⊢
    have e2 : dotV (nI S') (nI S) = dotV (nI S) (nI S') := by simp only [dotV]; grind
    rw [e2] at hs k2 ⊢
    have m1 := Int.mul_le_mul_of_nonneg_left k1 (Int.le_of_lt hd')
    have m2 := Int.mul_le_mul_of_nonneg_left k2 (Int.le_of_lt hd)
    have e3 : dI S' * dI S' * sqS (nI S) + 2 * (-dI S * dI S' * dotV (nI S) (nI S')) + -dI S * -dI S * sqS (nI S') = (dI S' * (sqS (nI S) * dI S') - dI S' * (dotV (nI S) (nI S') * dI S)) + (dI S * (sqS (nI S') * dI S) - dI S * (dotV (nI S) (nI S') * dI S')) := by grind
    omega
  have := sqS_zero hz
  simp only [Sp.mk.injEq] at this
  obtain ⟨a, b, c⟩ := this
  refine ⟨?_, ?_, ?_⟩ <;> grind

/-! ## In the order of the list -/
def pick : List Pt → List Pt → List Pt
  | [], _ => []
  | q :: l, S => if q ∈ S then q :: pick l (S.erase q) else pick l S
theorem pick_sub : ∀ (l S : List Pt), (pick l S).Sublist l
  | [], _ => List.Sublist.refl _
  | q :: l, S => by
    simp only [pick]; split
    · exact (pick_sub l _).cons_cons q
    · exact (pick_sub l S).cons q
theorem pick_perm : ∀ (l S : List Pt), S.Nodup → (∀ q ∈ S, q ∈ l) → S.Perm (pick l S)
  | [], S, _, h => by
    cases S with
    | nil => exact List.Perm.nil
    | cons a S => have := h a (by simp); cases this
  | q :: l, S, hn, h => by
    simp only [pick]; split
    · rename_i hq
      refine (List.perm_cons_erase hq).trans ((pick_perm l (S.erase q) (hn.erase q) fun p hp => ?_).cons q)
      have hp' := (hn.mem_erase_iff).1 hp
      exact (List.mem_cons.1 (h p hp'.2)).resolve_left hp'.1
    · rename_i hq
      exact pick_perm l S hn fun p hp => (List.mem_cons.1 (h p hp)).resolve_left (by rintro rfl; exact hq hp)
theorem AI.tail {a : Pt} {S : List Pt} (h : AI (a :: S)) : AI S := by
  have := h.erase (i := 0) (by simp)
  simpa using this
theorem AI.nodup : ∀ {S : List Pt}, AI S → S.Nodup
  | [], _ => List.nodup_nil
  | a :: S, h => by
    refine List.nodup_cons.2 ⟨fun hm => ?_, h.tail.nodup⟩
    obtain ⟨s, t, rfl⟩ := List.append_of_mem hm
    have hp : (a :: (s ++ a :: t)).Perm (a :: a :: (s ++ t)) := (List.perm_middle).cons a
    exact (h.perm hp).two rfl
theorem best_sub {l : List Pt} (hl : l ≠ []) : ∃ S, S.Sublist l ∧ Good S ∧ Ahead l (nI S) (dI S) := by
  obtain ⟨S, h1, h2, h3⟩ := best_any hl
  have hp := pick_perm l S h1.ai.nodup h2
  obtain ⟨g, hs⟩ := h1.perm hp
  exact ⟨pick l S, pick_sub l S, g, hs.ahead h1.dpos g.dpos h3⟩
end Go.Proofs.YtomdahjakkifbaaGreat

/-
  Where orders meet, with what they have made.
-/
namespace Go.NP
open Go Go.RowKit
section
variable {P : Program} {w0 : World} {M : List Nat} {N : Nat} {D : Dfr} {T : TL} {L : HL} {Q : Exit → Act → World → Prop}
theorem cw_meetS {S : Type} {x : Code} (TS : S → TL) (LS : S → HL) (I : S → Prop) (h1 : CW P w0 M N D x T L (Exit.then (fun a w => ∃ s : S, I s ∧ Fr N D a (TS s) ∧ St w0 M w (LS s)) Q))
    (h2 : ∀ s, I s → At w0 M N D Q .normal (TS s) (LS s)) : CW P w0 M N D x T L Q :=
  fun a w ha hw b k cs hro hb hr => by
    obtain ⟨e, a', w', hq, harr⟩ := h1 a w ha hw b k cs hro hb hr
    refine ⟨e, a', w', ?_, harr⟩
    cases e with
    | normal => obtain ⟨s, hI, ha1, hw1⟩ := hq; exact h2 s hI a' w' ha1 hw1
    | exit id => exact hq
    | goto l => exact hq
    | ret => exact hq
    | panic ch => exact hq
    | outgrown => exact hq
/-- append(s, x), the length being told. -/
theorem s_appendN (i j : Nat) (s : SV) (n : Nat) (xs : List (List Value)) (x : List Value) (hn : xs.length = n) {d : Nat} {a b : Operand} {t e : TypeId} {z : Value} {sz bytes : Nat} {by' : Nat} {t' : TypeId} {p : String} {af : Array Edge} {g : Option (Nat × Bool)} {K : TL → HL → Prop} {Q : Exit → Act → World → Prop}
    (hE : Elt P t e z sz bytes) (hN : Nat.blt d N = true) (hs : ev T a = some (s.v n)) (hok : s.ok sz xs) (hl : SubL (s.l i e) L) (hy : ev T b = some (.slice (some ⟨by', 0, none⟩) 1 1)) (hyl : look L j = some (by', .cells x.toArray e (0, 0))) (hx : x.length = sz) (h1 : x.all (·.oneCell') = true)
    (hlen : (n + 1) * bytes ≤ 140737488355328) (hlen2 : n + 1 ≤ maxLen)
    (k : ∀ g cur cap, SV.ok sz (some (g, cur, cap)) (xs ++ [x]) → K ((d, .slice (some ⟨g, 0, none⟩) (n + 1) cap) :: T) ((i, (g, .cells cur.toArray e (0, 0))) :: L)) :
    Step P w0 M N D { dst := some d, op := .call { callee := .builtin .append, args := #[a, b], argTypes := #[t, t] }, type := t', pos := p, after := af, guard := g } T L K Q := by
  subst hn
  exact s_append i j s xs x hE hN hs hok hl hy hyl hx h1 hlen hlen2 k
end
end Go.NP

/-
  The walks of package simplex: weights.
-/
namespace Go.Proofs.YtomdahjakkifbaaGreat
open Go Go.NP Go.RowKit Go.Proofs
set_option maxRecDepth 100000

/-! ## Three points in an array -/
structure P3 where
  a : Pt
  b : Pt
  c' : Pt
def P3.l (s : P3) : List Value := s.a.l ++ s.b.l ++ s.c'.l
def P3.c (s : P3) (i : Int) : Pt := if i = 0 then s.a else if i = 1 then s.b else s.c'
def P3.set (s : P3) (i : Int) (v : Pt) : P3 := if i = 0 then ⟨v, s.b, s.c'⟩ else if i = 1 then ⟨s.a, v, s.c'⟩ else ⟨s.a, s.b, v⟩
theorem p3_get (s : P3) {i : Int} (h0 : 0 ≤ i) (h1 : i < 3) : Part s.l (0 + i.toNat * 3) 3 (s.c i).l := by
  have : i = 0 ∨ i = 1 ∨ i = 2 := by omega
  rcases this with rfl | rfl | rfl <;> exact ⟨rfl, rfl⟩
theorem p3_fit (s : P3) {i : Int} (h0 : 0 ≤ i) (h1 : i < 3) : 0 + i.toNat * 3 + 3 ≤ s.l.length := by
  show _ ≤ 9; omega
theorem p3_wr (s : P3) {i : Int} (h0 : 0 ≤ i) (h1 : i < 3) (v : Pt) : wr s.l (0 + i.toNat * 3) v.l = (s.set i v).l := by
  have : i = 0 ∨ i = 1 ∨ i = 2 := by omega
  rcases this with rfl | rfl | rfl <;> rfl
theorem P3.c_set (s : P3) {i j : Int} (v : Pt) (h0 : 0 ≤ i) (h1 : i < 3) (k0 : 0 ≤ j) (k1 : j < 3) : (s.set i v).c j = if j = i then v else s.c j := by
  have hi : i = 0 ∨ i = 1 ∨ i = 2 := by omega
  have hj : j = 0 ∨ j = 1 ∨ j = 2 := by omega
  rcases hi with rfl | rfl | rfl <;> rcases hj with rfl | rfl | rfl <;> rfl
theorem ptI_of {ps : List Pt} {i : Int} {p : Pt} (h : ps[i.toNat]? = some p) : ptI ps i = p := by
  unfold ptI; rw [List.getD_eq_getElem?_getD, h]; rfl
theorem ptI_get {ps : List Pt} {i : Int} (h0 : 0 ≤ i) (h1 : i < ps.length) : ps[i.toNat]? = some (ptI ps i) := by
  have h : i.toNat < ps.length := by omega
  rw [List.getElem?_eq_getElem h]
  exact congrArg some (ptI_of (List.getElem?_eq_getElem h)).symm
theorem ptI_in {ps : List Pt} (h : okPts ps) {i : Int} (h0 : 0 ≤ i) (h1 : i < ps.length) : (ptI ps i).In 268435456 := h _ (List.mem_of_getElem? (ptI_get h0 h1))
def P29 : Int := 536870912
theorem eI_in {ps : List Pt} (h : okPts ps) {i : Int} (h0 : 0 ≤ i) (h1 : i + 1 < ps.length) : (eI ps i).In P29 := sub_bd (j := 268435456) (k := 268435456) (ptI_in h (by omega) (by omega)) (ptI_in h (by omega) (by omega))
theorem gI_bd {ps : List Pt} (h : okPts ps) {n : Int} (hn : n = ps.length - 1) : GBd n (gI ps) := by
  intro i k i0 i1 k0 k1
  have e := eI_in h i0 (by omega)
  unfold gI
  split
  · have := dotS_bd e.sp (ptI_in h (Int.le_refl 0) (by omega))
    have c : 3 * (P29 * 268435456) ≤ P60 := by decide
    omega
  · have := dotS_bd e.sp (eI_in h k0 (by omega))
    have c : 3 * (P29 * P29) ≤ P60 := by decide
    omega

/-- What the closure of weights reads. -/
structure WG (w : World) (bn be bl : Nat) (v : Value) (ps : List Pt) (q : P3) : Prop where
  n1 : w.heap[bn]? = some (.cells [.int .i64 (ps.length - 1)].toArray 3 (0, 0))
  e1 : w.heap[be]? = some (.cells q.l.toArray 137 (0, 0))
  l1 : w.heap[bl]? = some (.cells [v].toArray 22 (0, 0))
  at' : PtsAt w v ps
  eq : ∀ j : Int, 0 ≤ j → j < (ps.length : Int) - 1 → q.c j = eI ps j
theorem WG.below {w w' : World} {bn be bl : Nat} {v : Value} {ps : List Pt} {q : P3} (h : WG w bn be bl v ps q) (hb : Below w.heap.size w w') : WG w' bn be bl v ps q := by
  have k : ∀ {b : Nat} {o : Obj}, w.heap[b]? = some o → w'.heap[b]? = some o := fun {b o} hh => (hb.block b (Array.getElem?_eq_some_iff.1 hh).1).trans hh
  exact ⟨k h.n1, k h.e1, k h.l1, h.at'.below hb, h.eq⟩
theorem weights_g {w : World} {bn be bl : Nat} {v : Value} {ps : List Pt} {q : P3} (h : WG w bn be bl v ps q) (hok : okPts ps) (h1 : 1 ≤ ps.length) (h4 : ps.length ≤ 4) {i k : Int} (i0 : 0 ≤ i) (i1 : i < ps.length - 1) (k0 : 0 ≤ k) (k1 : k ≤ ps.length - 1) :
    Calls Tryz.prog 101 #[.int .i64 i, .int .i64 k, .pointer (some ⟨bn, 0, none⟩), .pointer (some ⟨be, 0, none⟩), .pointer (some ⟨bl, 0, none⟩)] w fun e w' => e = .returned (.agg (Wl (gI ps i k)).toArray) ∧ Below w.heap.size w w' := by
  obtain ⟨hn, he, hl, hv, hq⟩ := h
  obtain ⟨a, c, rfl, hs⟩ := hv
  rw [List.length_map] at hl
  have p0 := ptI_get (ps := ps) (Int.le_refl 0) (by omega)
  have p0l : (ps.map Pt.l)[(0 : Int).toNat]? = some (ptI ps 0).l := by rw [List.getElem?_map, p0]; rfl
  obtain ⟨bl', off', l', fz', rfl, hb', hpt'⟩ := hs.resolve_left (by intro h; rw [h] at p0l; simp at p0l)
  have e := eI_in hok i0 (by omega)
  have b0 := ptI_in hok (Int.le_refl 0) (by omega)
  have hc29 : (29 : Nat) = 29 := rfl
  have e40 : (eI ps i).In P40 := e.mono (by decide)
  refine calls_of Tryz.func101 rfl Tryz.ntmps101 rfl (St.start w) (args := [.int .i64 i, .int .i64 k, .pointer (some ⟨bn, 0, none⟩), .pointer (some ⟨be, 0, none⟩), .pointer (some ⟨bl, 0, none⟩)]) ?_
  refine cw_sr ?_
  refine steps_s (s_allocA 7 rfl zer31 fun b7 => ?_)  -- simplex.go:73
  refine steps_nil ?_
  refine cw_seq ?_
  refine cw_sr ?_
  refine steps_q rfl (q_move rfl) ?_  -- simplex.go:74
  refine steps_q rfl (q_load1o one3 rfl hn (by simp) rfl) ?_  -- simplex.go:74
  refine steps_q rfl (q_bin rfl rfl rfl) ?_  -- simplex.go:74
  refine steps_nil ?_
  refine cw_cond _ rfl (fun hc1 => ?_) (fun hc1 => ?_)
  · -- yes 1
    have hk : k = ps.length - 1 := by simpa using hc1
    have eg : gI ps i k = - dotS (eI ps i).sp (ptI ps 0) := if_pos hk
    have hd := dotS_bd e.sp b0
    have fd : Fits (dotS (eI ps i).sp (ptI ps 0)) := fits_big (bd_big hd (by decide))
    have fn : Fits (- dotS (eI ps i).sp (ptI ps 0)) := fits_big (bd_big (k := 3 * (P29 * 268435456)) (by omega) (by decide))
    rw [eg]
    refine cw_sd mixed [0, 1, 2, 3, 4, 5, 6, 7, 8, 9, 10] 3 (without _ [8]) (by kernel_rfl) (sub_without _ _) ?_
    refine qi_q rfl rfl (q_move rfl) ?_  -- simplex.go:75
    refine qi_q rfl rfl (q_indexArr arr137 rfl rfl i0 (by omega)) ?_  -- simplex.go:75
    refine qi_q rfl rfl (q_loadAo agg47 rfl he (by simp) (p3_get q i0 (by omega))) ?_  -- simplex.go:75
    refine qi_q rfl rfl (q_load1o one22 rfl hl (by simp) rfl) ?_  -- simplex.go:75
    refine qi_q rfl rfl (q_indexSl slc22 rfl rfl (by omega) (by omega)) ?_  -- simplex.go:75
    refine qi_q rfl rfl (q_loadAo agg47 rfl hb' (by simp) (hpt' _ _ p0l)) ?_  -- simplex.go:75
    rw [hq i i0 i1]
    refine qi_q rfl rfl (q_pure ent102 rfl (grid_Dot e40 (b0.mono (by decide)))) ?_  -- simplex.go:75
    refine qi_q rfl rfl (q_pure ent31 rfl (wide_Neg fd fn)) ?_  -- simplex.go:75
    refine qi_q rfl rfl (q_move rfl) ?_  -- simplex.go:75
    refine qi_q rfl rfl (q_extract rfl rfl) ?_  -- simplex.go:75
    refine qi_q rfl rfl (q_extract rfl rfl) ?_  -- simplex.go:75
    refine qi_nil ?_
    refine tail_one 11 (by kernel_rfl) rfl rfl (s_allocA 8 rfl zer31 fun b8 => ⟨(subl_cons rfl (sub_without _ _)), ?_⟩)  -- simplex.go:75
    refine tail_one 12 (by kernel_rfl) rfl rfl (s_storeW 8 siz31 rfl rfl rfl rfl rfl rfl ⟨(subl_cons rfl (subl_cons rfl (sub_without _ _))), ?_⟩)  -- simplex.go:75
    refine tail_quiet 13 (by kernel_rfl) rfl rfl rfl (q_assign rfl) ?_  -- simplex.go:75
    refine tail_nil (by kernel_rfl) ?_
    refine cw_sr ?_
    refine steps_q rfl (q_loadW 8 agg31 rfl rfl rfl) ?_  -- simplex.go:76
    refine steps_s (s_storeW 7 siz31 rfl rfl rfl rfl rfl rfl ?_)  -- simplex.go:76
    refine steps_nil ?_
    refine cw_ret ?_
    exact ret_pure rfl (rv_agg 7 agg31 rfl rfl rfl rv_nil) rfl
  · -- no 1
    have hk : ¬ k = ps.length - 1 := by simpa using hc1
    have eg : gI ps i k = dotS (eI ps i).sp (eI ps k) := if_neg hk
    have e' : (eI ps k).In P40 := (eI_in hok k0 (by omega)).mono (by decide)
    rw [eg]
    refine cw_skip ?_
    refine at_then ?_
    refine cw_sd mixed [0, 1, 2, 3, 4, 5, 6] 1 (without _ [7]) (by kernel_rfl) (sub_without _ _) ?_
    refine qi_q rfl rfl (q_move rfl) ?_  -- simplex.go:78
    refine qi_q rfl rfl (q_indexArr arr137 rfl rfl i0 (by omega)) ?_  -- simplex.go:78
    refine qi_q rfl rfl (q_loadAo agg47 rfl he (by simp) (p3_get q i0 (by omega))) ?_  -- simplex.go:78
    refine qi_q rfl rfl (q_move rfl) ?_  -- simplex.go:78
    refine qi_q rfl rfl (q_indexArr arr137 rfl rfl k0 (by omega)) ?_  -- simplex.go:78
    refine qi_q rfl rfl (q_loadAo agg47 rfl he (by simp) (p3_get q k0 (by omega))) ?_  -- simplex.go:78
    rw [hq i i0 i1, hq k k0 (by omega)]
    refine qi_q rfl rfl (q_pure ent102 rfl (grid_Dot e40 e')) ?_  -- simplex.go:78
    refine qi_nil ?_
    refine tail_one 7 (by kernel_rfl) rfl rfl (s_storeW 7 siz31 rfl rfl rfl rfl rfl rfl ⟨(subl_cons rfl (sub_without _ _)), ?_⟩)  -- simplex.go:78
    refine tail_nil (by kernel_rfl) ?_
    refine cw_ret ?_
    exact ret_pure rfl (rv_agg 7 agg31 rfl rfl rfl rv_nil) rfl
end Go.Proofs.YtomdahjakkifbaaGreat

/-
  The walks of package simplex: weights.
-/
namespace Go.Proofs.YtomdahjakkifbaaGreat
open Go Go.NP Go.RowKit Go.Proofs
set_option maxRecDepth 100000

theorem bslW (a : Int) : ∀ w, (Instr.buildSlice 106 1 [(0, Value.agg (Wl a).toArray)].toArray).run Tryz.prog w = .ok (.slice (some ⟨w.heap.size, 0, none⟩) 1 1) (w.alloc (.cells (Wl a).toArray 31)) := fun w => by kernel_rfl
def K183 : Int := 3 * (P60 * (2 * (P60 * P60)))
theorem minorI_bd {n wi : Int} {G : Int → Int → Int} (n0 : 0 ≤ n) (n3 : n ≤ 3) (hb : GBd n G) : -K183 ≤ minorI n G wi ∧ minorI n G wi ≤ K183 := by
  have c0 : (1 : Int) ≤ K183 := by decide
  have c1 : P60 ≤ K183 := by decide
  have c2 : 2 * (P60 * P60) ≤ K183 := by decide
  by_cases h0 : n = 0
  · rw [show minorI n G wi = 1 from if_pos h0]; omega
  by_cases h1 : n = 1
  · rw [show minorI n G wi = atI n G wi 0 0 by unfold minorI; rw [if_neg h0, if_pos h1]]
    have := atI_bd (wi := wi) hb (i := 0) (k := 0) (by omega) (by omega) (by omega) (by omega)
    omega
  by_cases h2 : n = 2
  · rw [show minorI n G wi = twoI n G wi 0 1 0 1 by unfold minorI; rw [if_neg h0, if_neg h1, if_pos h2]]
    have := twoI_bd (wi := wi) hb (a := 0) (b := 1) (i := 0) (k := 1) (by omega) (by omega) (by omega) (by omega) (by omega) (by omega) (by omega) (by omega)
    omega
  rw [minorI_3 h0 h1 h2]
  have p0 := mul_bd (atI_bd (wi := wi) hb (i := 0) (k := 0) (by omega) (by omega) (by omega) (by omega)) (twoI_bd (wi := wi) hb (a := 1) (b := 2) (i := 1) (k := 2) (by omega) (by omega) (by omega) (by omega) (by omega) (by omega) (by omega) (by omega))
  have p1 := mul_bd (atI_bd (wi := wi) hb (i := 0) (k := 1) (by omega) (by omega) (by omega) (by omega)) (twoI_bd (wi := wi) hb (a := 1) (b := 2) (i := 0) (k := 2) (by omega) (by omega) (by omega) (by omega) (by omega) (by omega) (by omega) (by omega))
  have p2 := mul_bd (atI_bd (wi := wi) hb (i := 0) (k := 2) (by omega) (by omega) (by omega) (by omega)) (twoI_bd (wi := wi) hb (a := 1) (b := 2) (i := 0) (k := 1) (by omega) (by omega) (by omega) (by omega) (by omega) (by omega) (by omega) (by omega))
  unfold K183; omega
theorem tot_append : ∀ (u : List Int) (x : Int), tot (u ++ [x]) = tot u + x
  | [], x => by simp [tot]
  | y :: u, x => by simp only [List.cons_append, tot, tot_append u x]; omega
theorem tot_bd {K : Int} : ∀ {u : List Int}, (∀ x ∈ u, -K ≤ x ∧ x ≤ K) → -(u.length * K) ≤ tot u ∧ tot u ≤ u.length * K
  | [], _ => by simp [tot]
  | y :: u, h => by
    have ih := tot_bd (u := u) fun x hx => h x (by simp [hx])
    have hy := h y (by simp)
    have e : ((y :: u).length : Int) * K = u.length * K + K := by rw [List.length_cons]; push_cast; rw [Int.add_mul, Int.one_mul]
    rw [e]; simp only [tot]; omega
theorem p3_step {ps : List Pt} {q : P3} {k : Int} (hq : ∀ j : Int, 0 ≤ j → j < k → q.c j = eI ps j) (k0 : 0 ≤ k) (k3 : k < 3) : ∀ j : Int, 0 ≤ j → j < k + 1 → (q.set k (eI ps k)).c j = eI ps j := fun j h0 h1 => by
  rw [P3.c_set _ _ k0 k3 h0 (by omega)]
  split
  · rename_i e; rw [e]
  · exact hq j h0 (by omega)
/-- The first k of the weights behind the first. -/
def mk (ps : List Pt) (k : Int) : Int := minorI (ps.length - 1) (gI ps) k
def ms (ps : List Pt) : Nat → List Int
  | 0 => []
  | k + 1 => ms ps k ++ [mk ps k]
theorem ms_len (ps : List Pt) : ∀ k, (ms ps k).length = k
  | 0 => rfl
  | k + 1 => by simp [ms, ms_len ps k]
theorem msI_ms (ps : List Pt) : msI ps = ms ps (ps.length - 1) := by
  have key : ∀ n, ms ps n = (List.range n).map fun (k : Nat) => mk ps k := by
    intro n
    induction n with
    | zero => rfl
    | succ n ih => rw [List.range_succ, List.map_append, ms, ih]; rfl
  rw [key]; rfl
theorem ms_mem {ps : List Pt} {x : Int} : ∀ {k : Nat}, x ∈ ms ps k → ∃ j : Nat, j < k ∧ x = mk ps j
  | 0, h => by cases h
  | k + 1, h => by
    rcases List.mem_append.1 h with h | h
    · obtain ⟨j, h1, h2⟩ := ms_mem h; exact ⟨j, by omega, h2⟩
    · exact ⟨k, by omega, List.mem_singleton.1 h⟩
theorem sv_set0 {s g : Nat} {cur : List Value} {cap : Nat} {a x : List Value} {xs : List (List Value)} (h : SV.ok s (some (g, cur, cap)) (a :: xs)) (hx : x.length = s) : SV.ok s (some (g, wr cur 0 x, cap)) (x :: xs) := by
  obtain ⟨h1, h2, h3, h4, h5⟩ := h
  have ha := h5 a (by simp)
  have hs : s ≤ cur.length := by
    have : (xs.length + 1) * s ≤ cap * s := Nat.mul_le_mul_right s (by simpa using h2)
    rw [Nat.add_mul, Nat.one_mul] at this
    rw [h1]; omega
  refine ⟨?_, by simpa using h2, h3, ?_, fun y hy => ?_⟩
  · simp only [wr, List.take_zero, List.nil_append, List.length_append, List.length_drop, hx, Nat.zero_add]; omega
  · simp only [wr, List.take_zero, List.nil_append, Nat.zero_add, List.flatten_cons, List.length_cons] at h4 ⊢
    rw [Nat.add_mul, Nat.one_mul] at h4 ⊢
    have h6 := congrArg (List.drop s) h4
    rw [List.drop_take, List.drop_append, List.drop_eq_nil_of_le (show a.length ≤ s by omega), ha, Nat.sub_self, List.drop_zero, List.nil_append] at h6
    rw [List.take_append, hx, List.take_of_length_le (by omega)]
    congr 1
  · rcases List.mem_cons.1 hy with rfl | hy
    · exact hx
    · exact h5 y (by simp [hy])
theorem wI_ms (ps : List Pt) (h1 : 1 ≤ ps.length) {n : Int} (hn : n = ps.length - 1) : wI ps = (dI ps - tot (ms ps n.toNat)) :: ms ps n.toNat := by
  have e : n.toNat = ps.length - 1 := by omega
  rw [e, ← msI_ms]; rfl
/-- What weights hands back. -/
def WR (ps : List Pt) (v : Value) (Ln : HL) : Prop := ∃ g cur cap, v = .tuple #[.slice (some ⟨g, 0, none⟩) (wI ps).length cap, .agg (Wl (dI ps)).toArray] ∧ Ln = [(61, (g, .cells cur.toArray 31 (0, 0)))] ∧ SV.ok 8 (some (g, cur, cap)) ((wI ps).map Wl)

set_option maxHeartbeats 4000000 in
theorem simplex_weights {ps : List Pt} {v : Value} (w : World) (hv : PtsAt w v ps) (hok : okPts ps) (h1 : 1 ≤ ps.length) (h4 : ps.length ≤ 4) :
    Calls Tryz.prog 66 #[v] w fun e w' => ∃ v Ln, e = .returned v ∧ WR ps v Ln ∧ St w [] w' Ln := by
  have hv0 := hv
  obtain ⟨a, c, rfl, hs⟩ := hv
  rw [List.length_map] at hv0 ⊢
  obtain ⟨n, hn⟩ : ∃ n : Int, n = ps.length - 1 := ⟨_, rfl⟩
  have p0 := ptI_get (ps := ps) (Int.le_refl 0) (by omega)
  have p0l : (ps.map Pt.l)[(0 : Int).toNat]? = some (ptI ps 0).l := by rw [List.getElem?_map, p0]; rfl
  obtain ⟨bl, off, l, fz, rfl, hb, hpt⟩ := hs.resolve_left (by intro h; rw [h] at p0l; simp at p0l)
  have hgb := gI_bd hok hn
  have hm := fun wi => minorI_bd (wi := wi) (n := n) (by omega) (by omega) hgb
  have hd : -K183 ≤ dI ps ∧ dI ps ≤ K183 := by have := hm (-1); rw [hn] at this; exact this
  have hmk : ∀ k, -K183 ≤ mk ps k ∧ mk ps k ≤ K183 := fun k => by have := hm k; rw [hn] at this; exact this
  have hGV : ∀ {L : HL} {b4 b5 b1 : Nat} {q : P3} {w' : World}, St w [] w' L → NP.look L 4 = some (b4, .cells [.int .i64 n].toArray 3 (0, 0)) → NP.look L 5 = some (b5, .cells q.l.toArray 137 (0, 0)) → NP.look L 1 = some (b1, .cells [.slice (some ⟨bl, off, none⟩) ps.length c].toArray 22 (0, 0)) →
      (∀ j : Int, 0 ≤ j → j < (ps.length : Int) - 1 → q.c j = eI ps j) → GV w' (.func (.func 101) #[] #[.pointer (some ⟨b4, 0, none⟩), .pointer (some ⟨b5, 0, none⟩), .pointer (some ⟨b1, 0, none⟩)]) n (gI ps) := by
    intro L b4 b5 b1 q w' hw h4' h5' h1' hq
    have hWG : WG w' b4 b5 b1 (.slice (some ⟨bl, off, none⟩) ps.length c) ps q := ⟨by have := (hw.known _ _ _ h4').1; rwa [hn] at this, (hw.known _ _ _ h5').1, (hw.known _ _ _ h1').1, SlAt.st hv0 hw, hq⟩
    refine ⟨_, _, rfl, ent101, fun w2 hb2 i k i0 i1 k0 k1 => ?_⟩
    simpa using weights_g (hWG.below hb2) hok h1 h4 i0 (by omega) k0 (by omega)
  refine calls_of Tryz.func66 rfl Tryz.ntmps66 rfl (St.start w) (args := [.slice (some ⟨bl, off, none⟩) ps.length c]) ?_
  refine cw_sr ?_
  refine steps_s (s_box1 1 rfl rfl rfl fun b1 => ?_)  -- simplex.go:67
  refine steps_q rfl (q_assign rfl) ?_  -- simplex.go:67
  refine steps_s (s_allocA 3 rfl zer31 fun b3 => ?_)  -- simplex.go:67
  refine steps_nil ?_
  refine cw_sr ?_
  refine steps_q rfl (q_load1 1 one22 rfl rfl rfl) ?_  -- simplex.go:68
  refine steps_q rfl (q_lenSl Tryz.underlying22 rfl) ?_  -- simplex.go:68
  refine steps_q rfl (q_bin rfl rfl (sub64 (by omega) (by omega))) ?_  -- simplex.go:68
  rw [← hn]
  refine steps_s (s_alloc1 4 rfl zer3 rfl fun b4 => ?_)  -- simplex.go:68
  refine steps_s (s_storeV 4 siz3 rfl rfl rfl rfl rfl ?_)  -- simplex.go:68
  refine steps_nil ?_
  refine cw_sr ?_
  refine steps_s (s_allocA 5 rfl zer137 fun b5 => ?_)  -- simplex.go:69
  refine steps_nil ?_
  refine cw_seq ?_
  refine cw_sr ?_
  refine steps_q rfl (q_load1 4 one3 rfl rfl rfl) ?_  -- simplex.go:70
  refine steps_q rfl (q_move rfl) ?_  -- simplex.go:70
  refine steps_nil ?_
  refine cw_block ?_
  -- LOOP 1 writes [6, 15, 16, 17, 18, 19, 20, 21, 22, 23, 24, 25, 26, 27, 28, 29]  stores via [28]  reads [1, 5, 14]
  refine cw_loop (S := Int × P3) (fun s => [(1, .pointer (some ⟨b1, 0, none⟩)), (2, .slice none 0 0), (3, .pointer (some ⟨b3, 0, none⟩)), (4, .pointer (some ⟨b4, 0, none⟩)), (5, .pointer (some ⟨b5, 0, none⟩)), (14, .int .i64 n), (15, .int .i64 s.1)]) (fun s => [(1, (b1, .cells [.slice (some ⟨bl, off, none⟩) ps.length c].toArray 22 (0, 0))), (3, (b3, .cells (Wl 0).toArray 31 (0, 0))), (4, (b4, .cells [.int .i64 n].toArray 3 (0, 0))), (5, (b5, .cells (P3.l s.2).toArray 137 (0, 0)))]) (fun s => 0 ≤ s.1 ∧ s.1 ≤ n ∧ ∀ j : Int, 0 ≤ j → j < s.1 → s.2.c j = eI ps j) (fun s => (n - s.1).toNat) (0, ⟨⟨0, 0, 0⟩, ⟨0, 0, 0⟩, ⟨0, 0, 0⟩⟩) ⟨by dsimp only; omega, by dsimp only; omega, fun j h0 h1 => by dsimp only at h1; omega⟩ (subs ⟨rfl, rfl, rfl, rfl, rfl, rfl, rfl, trivial⟩) (subs ⟨rfl, rfl, rfl, rfl, trivial⟩) ?_
  rintro ⟨k, q⟩ ⟨k0, k1, hq⟩
  dsimp only at k0 k1 hq
  conv => enter [7]; dsimp only
  conv => enter [8]; dsimp only
  refine cw_sr ?_
  refine steps_q rfl (q_bin rfl rfl rfl) ?_  -- simplex.go:70
  refine steps_nil ?_
  refine cw_seq ?_
  refine cw_cond _ rfl (fun hc1 => ?_) (fun hc1 => ?_)
  · -- yes 1
    have hk : k < n := of_decide_eq_true hc1
    have pk := ptI_get (ps := ps) (i := k + 1) (by omega) (by omega)
    have pkl : (ps.map Pt.l)[(k + 1).toNat]? = some (ptI ps (k + 1)).l := by rw [List.getElem?_map, pk]; rfl
    have f0 := (ptI_in hok (Int.le_refl 0) (by omega)).mono (show (268435456 : Int) ≤ P40 by decide)
    have fk := (ptI_in hok (show 0 ≤ k + 1 by omega) (by omega)).mono (show (268435456 : Int) ≤ P40 by decide)
    refine cw_skip ?_
    refine at_then ?_
    refine cw_seq ?_
    refine cw_block ?_
    refine cw_sr ?_
    refine steps_q rfl (q_move rfl) ?_  -- simplex.go:70
    refine steps_q rfl (q_assign rfl) ?_  -- simplex.go:70
    refine steps_nil ?_
    refine cw_draw mixed [0, 1, 2, 3, 4, 5, 6, 7, 8, 9, 10] 1 (without _ [5]) (by kernel_rfl) (sub_without _ _) ?_
    refine qi_q rfl rfl (q_move rfl) ?_  -- simplex.go:71
    refine qi_q rfl rfl (q_load1 1 one22 rfl rfl rfl) ?_  -- simplex.go:71
    refine qi_q rfl rfl (q_move rfl) ?_  -- simplex.go:71
    refine qi_q rfl rfl (q_bin rfl rfl (add64 (by omega) (by omega))) ?_  -- simplex.go:71
    refine qi_q rfl rfl (q_indexSl slc22 rfl rfl (by omega) (by omega)) ?_  -- simplex.go:71
    refine qi_q rfl rfl (q_loadAo agg47 rfl hb (by simp) (hpt _ _ pkl)) ?_  -- simplex.go:71
    refine qi_q rfl rfl (q_load1 1 one22 rfl rfl rfl) ?_  -- simplex.go:71
    refine qi_q rfl rfl (q_indexSl slc22 rfl rfl (by omega) (by omega)) ?_  -- simplex.go:71
    refine qi_q rfl rfl (q_loadAo agg47 rfl hb (by simp) (hpt _ _ p0l)) ?_  -- simplex.go:71
    refine qi_q rfl rfl (q_pure ent100 rfl (simplex_from fk f0)) ?_  -- simplex.go:71
    refine qi_q rfl rfl (q_indexArr arr137 rfl rfl k0 (by omega)) ?_  -- simplex.go:71
    refine qi_nil ?_
    refine tail_one 11 (by kernel_rfl) rfl rfl (s_storeA 5 siz47 rfl rfl rfl rfl rfl (p3_fit q k0 (by omega)) (p3_wr q k0 (by omega) _) ⟨(subl_cons rfl (sub_without _ _)), ?_⟩)  -- simplex.go:71
    refine tail_nil (by kernel_rfl) ?_
    refine at_then ?_
    refine cw_region ?_
    refine steps_q rfl (q_bin rfl rfl (add64 (by omega) (by omega))) ?_  -- simplex.go:70
    refine steps_q rfl (q_move rfl) ?_  -- simplex.go:70
    refine steps_nil ?_
    exact at_round (k + 1, q.set k (eI ps k)) ⟨by dsimp only; omega, by dsimp only; omega, p3_step hq k0 (by omega)⟩ (by dsimp only; omega) (subs ⟨rfl, rfl, rfl, rfl, rfl, rfl, rfl, trivial⟩) (subs ⟨rfl, rfl, rfl, rfl, trivial⟩)
  · -- no 1
    have hk : ¬ k < n := of_decide_eq_false hc1
    obtain rfl : k = n := by omega
    have hq' : ∀ j : Int, 0 ≤ j → j < (ps.length : Int) - 1 → q.c j = eI ps j := fun j h0 h1 => hq j h0 (by omega)
    refine cw_exit ?_
    refine at_then ?_
    refine cw_sr ?_
    refine steps_q rfl (q_func rfl rfl) ?_  -- simplex.go:73
    refine steps_q rfl (q_assign rfl) ?_  -- simplex.go:73
    refine steps_nil ?_
    refine cw_sr ?_
    refine steps_q rfl (q_load1 4 one3 rfl rfl rfl) ?_  -- simplex.go:80
    refine steps_q rfl (q_move rfl) ?_  -- simplex.go:80
    refine steps_q rfl (q_call ent103 rfl rfl (fun w' hw => by simpa using simplex_minor (wi := -1) k0 (by omega) (hGV hw rfl rfl rfl hq') hgb)) ?_  -- simplex.go:80
    rw [show minorI k (gI ps) (-1) = dI ps by rw [hn]; rfl]
    refine steps_s (s_storeW 3 siz31 rfl rfl rfl rfl rfl rfl ?_)  -- simplex.go:80
    refine steps_nil ?_
    refine cw_sr ?_
    refine steps_q rfl (q_loadW 3 agg31 rfl rfl rfl) ?_  -- simplex.go:81
    refine steps_s (s_allocA 8 rfl zer31 fun b8 => ?_)  -- simplex.go:81
    refine steps_s (s_storeW 8 siz31 rfl rfl rfl rfl rfl rfl ?_)  -- simplex.go:81
    refine steps_nil ?_
    refine cw_sr ?_
    refine steps_q rfl (q_move rfl) ?_  -- simplex.go:82
    refine steps_q rfl (q_build (vs := []) rfl rfl bldW0) ?_  -- simplex.go:82
    refine steps_s (s_buildSl 37 rfl rfl rfl (bslW 0) fun b37 => ?_)  -- simplex.go:82
    refine steps_s (s_appendN 61 37 none 0 [] (Wl 0) rfl elt106 rfl rfl rfl (subs trivial) rfl rfl rfl rfl (by decide) (by decide) fun g cur cap hk1 => ?_)  -- simplex.go:82
    refine steps_q rfl (q_assign rfl) ?_  -- simplex.go:82
    refine steps_nil ?_
    refine cw_seq ?_
    refine cw_sr ?_
    refine steps_q rfl (q_load1 4 one3 rfl rfl rfl) ?_  -- simplex.go:83
    refine steps_q rfl (q_move rfl) ?_  -- simplex.go:83
    refine steps_nil ?_
    refine cw_block ?_
    -- LOOP 2 writes [2, 9, 10, 40, 41, 42, 43, 44, 45, 46, 47, 48, 49, 50, 51, 52, 53, 54]  stores via [8, 10]  reads [4, 7, 8, 39]
    refine cw_loop (S := Int × Nat × List Value × Nat) (fun s => [(1, .pointer (some ⟨b1, 0, none⟩)), (2, .slice (some ⟨s.2.1, 0, none⟩) (s.1.toNat + 1) s.2.2.2), (3, .pointer (some ⟨b3, 0, none⟩)), (4, .pointer (some ⟨b4, 0, none⟩)), (5, .pointer (some ⟨b5, 0, none⟩)), (7, .func (.func 101) #[] #[.pointer (some ⟨b4, 0, none⟩), .pointer (some ⟨b5, 0, none⟩), .pointer (some ⟨b1, 0, none⟩)]), (8, .pointer (some ⟨b8, 0, none⟩)), (39, .int .i64 k), (40, .int .i64 s.1)]) (fun s => [(1, (b1, .cells [.slice (some ⟨bl, off, none⟩) ps.length c].toArray 22 (0, 0))), (3, (b3, .cells (Wl (dI ps)).toArray 31 (0, 0))), (4, (b4, .cells [.int .i64 k].toArray 3 (0, 0))), (5, (b5, .cells (P3.l q).toArray 137 (0, 0))), (8, (b8, .cells (Wl (dI ps - tot (ms ps s.1.toNat))).toArray 31 (0, 0))), (61, (s.2.1, .cells s.2.2.1.toArray 31 (0, 0)))]) (fun s => 0 ≤ s.1 ∧ s.1 ≤ k ∧ SV.ok 8 (some s.2) ((0 :: ms ps s.1.toNat).map Wl)) (fun s => (k - s.1).toNat) (0, g, cur, cap) ⟨by dsimp only; omega, by dsimp only; omega, hk1⟩ (subs ⟨rfl, rfl, rfl, rfl, rfl, rfl, rfl, rfl, rfl, trivial⟩) (subs ⟨rfl, rfl, rfl, rfl, by rw [show dI ps - tot (ms ps (0 : Int).toNat) = dI ps from Int.sub_zero _]; rfl, rfl, trivial⟩) ?_
    clear hk1
    rintro ⟨j, g, cur, cap⟩ ⟨j0, j1, hsv⟩
    dsimp only at j0 j1 hsv
    conv => enter [7]; dsimp only
    conv => enter [8]; dsimp only
    have hmsl : ((0 :: ms ps j.toNat).map Wl).length = j.toNat + 1 := by simp [ms_len]
    have htb := tot_bd (u := ms ps j.toNat) (K := K183) fun x hx => by obtain ⟨i, _, rfl⟩ := ms_mem hx; exact hmk i
    rw [ms_len] at htb
    have hj3 : (j.toNat : Int) * K183 ≤ 3 * K183 := Int.mul_le_mul_of_nonneg_right (by omega) (by decide)
    have ff : Fits (dI ps - tot (ms ps j.toNat)) := fits_big (bd_big (k := 4 * K183) (by omega) (by decide))
    refine cw_sr ?_
    refine steps_q rfl (q_bin rfl rfl rfl) ?_  -- simplex.go:83
    refine steps_nil ?_
    refine cw_seq ?_
    refine cw_cond _ rfl (fun hc2 => ?_) (fun hc2 => ?_)
    · -- yes 2
      have hj : j < k := of_decide_eq_true hc2
      have fm : Fits (mk ps j) := fits_big (bd_big (hmk j) (by decide))
      have hmj := hmk j
      have ff' : Fits (dI ps - tot (ms ps j.toNat) - mk ps j) := fits_big (bd_big (k := 5 * K183) (by omega) (by decide))
      have ejn : (j + 1).toNat = j.toNat + 1 := by omega
      have ems : ms ps (j + 1).toNat = ms ps j.toNat ++ [mk ps j] := by rw [ejn, ms]; congr 2; rw [show ((j.toNat : Nat) : Int) = j by omega]
      have efst : dI ps - tot (ms ps (j + 1).toNat) = dI ps - tot (ms ps j.toNat) - mk ps j := by rw [ems, tot_append]; omega
      refine cw_skip ?_
      refine at_then ?_
      refine cw_seq ?_
      refine cw_block ?_
      refine cw_sr ?_
      refine steps_q rfl (q_move rfl) ?_  -- simplex.go:83
      refine steps_q rfl (q_assign rfl) ?_  -- simplex.go:83
      refine steps_nil ?_
      refine cw_sr ?_
      refine steps_q rfl (q_load1 4 one3 rfl rfl rfl) ?_  -- simplex.go:84
      refine steps_q rfl (q_move rfl) ?_  -- simplex.go:84
      refine steps_q rfl (q_move rfl) ?_  -- simplex.go:84
      refine steps_q rfl (q_call ent103 rfl rfl (fun w' hw => by simpa using simplex_minor (wi := j) k0 (by omega) (hGV hw rfl rfl rfl hq') hgb)) ?_  -- simplex.go:84
      rw [show minorI k (gI ps) j = mk ps j by rw [hn]; rfl]
      refine steps_s (s_allocA 10 rfl zer31 fun b10 => ?_)  -- simplex.go:84
      refine steps_s (s_storeW 10 siz31 rfl rfl rfl rfl rfl rfl ?_)  -- simplex.go:84
      refine steps_nil ?_
      refine cw_meetS (S := Nat × List Value × Nat) (fun (g', cur', cap') => [(1, .pointer (some ⟨b1, 0, none⟩)), (2, .slice (some ⟨g', 0, none⟩) (j.toNat + 1 + 1) cap'), (3, .pointer (some ⟨b3, 0, none⟩)), (4, .pointer (some ⟨b4, 0, none⟩)), (5, .pointer (some ⟨b5, 0, none⟩)), (7, .func (.func 101) #[] #[.pointer (some ⟨b4, 0, none⟩), .pointer (some ⟨b5, 0, none⟩), .pointer (some ⟨b1, 0, none⟩)]), (8, .pointer (some ⟨b8, 0, none⟩)), (39, .int .i64 k), (40, .int .i64 j)]) (fun (g', cur', cap') => [(1, (b1, .cells [.slice (some ⟨bl, off, none⟩) ps.length c].toArray 22 (0, 0))), (3, (b3, .cells (Wl (dI ps)).toArray 31 (0, 0))), (4, (b4, .cells [.int .i64 k].toArray 3 (0, 0))), (5, (b5, .cells (P3.l q).toArray 137 (0, 0))), (8, (b8, .cells (Wl (dI ps - tot (ms ps j.toNat) - mk ps j)).toArray 31 (0, 0))), (61, (g', .cells cur'.toArray 31 (0, 0)))]) (fun (g', cur', cap') => SV.ok 8 (some (g', cur', cap')) ((0 :: ms ps j.toNat).map Wl ++ [Wl (mk ps j)])) ?_ ?_
      · -- the orders of region 16
        refine cw_draw mixed [0, 1, 5] 6 (without _ [8, 49, 61]) (by kernel_rfl) (sub_without _ _) ?_
        refine qi_q rfl rfl (q_move rfl) ?_  -- simplex.go:85
        refine qi_q rfl rfl (q_loadW 10 agg31 rfl rfl rfl) ?_  -- simplex.go:85
        refine qi_q rfl rfl (q_loadW 10 agg31 rfl rfl rfl) ?_  -- simplex.go:85
        refine qi_nil ?_
        refine tail_cons [2, 4] (by kernel_rfl) ⟨⟨_, rfl, rfl, ?_⟩, ⟨_, rfl, rfl, ?_⟩, trivial⟩
        · refine s_buildSl 49 rfl rfl rfl (bslW _) fun b49 => ⟨(subl_cons rfl (sub_without _ _)), ?_⟩
          refine tail_cons [3, 4] (by kernel_rfl) ⟨⟨_, rfl, rfl, ?_⟩, ⟨_, rfl, rfl, ?_⟩, trivial⟩
          · refine s_appendN 61 49 (some (g, cur, cap)) (j.toNat + 1) ((0 :: ms ps j.toNat).map Wl) (Wl (mk ps j)) hmsl elt106 rfl rfl hsv (subs ⟨rfl, trivial⟩) rfl rfl rfl rfl (by omega) (by unfold maxLen; omega) fun g' cur' cap' hk2 => ⟨(subl_cons rfl (subl_cons rfl (sub_without _ _))), ?_⟩
            refine tail_one 4 (by kernel_rfl) rfl rfl ((q_loadW 8 agg31 rfl rfl rfl).step rfl (by decide) ⟨(subl_cons rfl (subl_cons rfl (sub_without _ _))), ?_⟩)  -- simplex.go:85
            refine tail_one 6 (by kernel_rfl) rfl rfl ((q_pure ent104 rfl (simplex_less ff fm ff')).step rfl (by decide) ⟨(subl_cons rfl (subl_cons rfl (sub_without _ _))), ?_⟩)  -- simplex.go:85
            refine tail_quiet 7 (by kernel_rfl) rfl rfl rfl (q_assign rfl) ?_  -- simplex.go:85
            refine tail_one 8 (by kernel_rfl) rfl rfl (s_storeW 8 siz31 rfl rfl rfl rfl rfl rfl ⟨(subl_cons rfl (subl_cons rfl (subl_cons rfl (sub_without _ _)))), ?_⟩)  -- simplex.go:85
            refine tail_nil (by kernel_rfl) ?_
            exact at_join (g', cur', cap') (hk2) (subs ⟨rfl, rfl, rfl, rfl, rfl, rfl, rfl, rfl, rfl, trivial⟩) (subs ⟨rfl, rfl, rfl, rfl, rfl, rfl, trivial⟩)
          · refine (q_loadW 8 agg31 rfl rfl rfl).step rfl (by decide) ⟨(subl_cons rfl (sub_without _ _)), ?_⟩
            refine tail_one 3 (by kernel_rfl) rfl rfl (s_appendN 61 49 (some (g, cur, cap)) (j.toNat + 1) ((0 :: ms ps j.toNat).map Wl) (Wl (mk ps j)) hmsl elt106 rfl rfl hsv (subs ⟨rfl, trivial⟩) rfl rfl rfl rfl (by omega) (by unfold maxLen; omega) fun g' cur' cap' hk2 => ⟨(subl_cons rfl (subl_cons rfl (sub_without _ _))), ?_⟩)  -- simplex.go:85
            refine tail_one 6 (by kernel_rfl) rfl rfl ((q_pure ent104 rfl (simplex_less ff fm ff')).step rfl (by decide) ⟨(subl_cons rfl (subl_cons rfl (sub_without _ _))), ?_⟩)  -- simplex.go:85
            refine tail_quiet 7 (by kernel_rfl) rfl rfl rfl (q_assign rfl) ?_  -- simplex.go:85
            refine tail_one 8 (by kernel_rfl) rfl rfl (s_storeW 8 siz31 rfl rfl rfl rfl rfl rfl ⟨(subl_cons rfl (subl_cons rfl (subl_cons rfl (sub_without _ _)))), ?_⟩)  -- simplex.go:85
            refine tail_nil (by kernel_rfl) ?_
            exact at_join (g', cur', cap') (hk2) (subs ⟨rfl, rfl, rfl, rfl, rfl, rfl, rfl, rfl, rfl, trivial⟩) (subs ⟨rfl, rfl, rfl, rfl, rfl, rfl, trivial⟩)
        · refine (q_loadW 8 agg31 rfl rfl rfl).step rfl (by decide) ⟨(sub_without _ _), ?_⟩
          refine tail_one 2 (by kernel_rfl) rfl rfl (s_buildSl 49 rfl rfl rfl (bslW _) fun b49 => ⟨(subl_cons rfl (sub_without _ _)), ?_⟩)  -- simplex.go:85
          refine tail_one 3 (by kernel_rfl) rfl rfl (s_appendN 61 49 (some (g, cur, cap)) (j.toNat + 1) ((0 :: ms ps j.toNat).map Wl) (Wl (mk ps j)) hmsl elt106 rfl rfl hsv (subs ⟨rfl, trivial⟩) rfl rfl rfl rfl (by omega) (by unfold maxLen; omega) fun g' cur' cap' hk2 => ⟨(subl_cons rfl (subl_cons rfl (sub_without _ _))), ?_⟩)  -- simplex.go:85
          refine tail_one 6 (by kernel_rfl) rfl rfl ((q_pure ent104 rfl (simplex_less ff fm ff')).step rfl (by decide) ⟨(subl_cons rfl (subl_cons rfl (sub_without _ _))), ?_⟩)  -- simplex.go:85
          refine tail_quiet 7 (by kernel_rfl) rfl rfl rfl (q_assign rfl) ?_  -- simplex.go:85
          refine tail_one 8 (by kernel_rfl) rfl rfl (s_storeW 8 siz31 rfl rfl rfl rfl rfl rfl ⟨(subl_cons rfl (subl_cons rfl (subl_cons rfl (sub_without _ _)))), ?_⟩)  -- simplex.go:85
          refine tail_nil (by kernel_rfl) ?_
          exact at_join (g', cur', cap') (hk2) (subs ⟨rfl, rfl, rfl, rfl, rfl, rfl, rfl, rfl, rfl, trivial⟩) (subs ⟨rfl, rfl, rfl, rfl, rfl, rfl, trivial⟩)
      · -- behind region 16
        rintro ⟨g', cur', cap'⟩ hM
        dsimp only at hM
        conv => enter [7]; dsimp only
        conv => enter [8]; dsimp only
        refine at_then ?_
        refine cw_region ?_
        refine steps_q rfl (q_bin rfl rfl (add64 (by omega) (by omega))) ?_  -- simplex.go:83
        refine steps_q rfl (q_move rfl) ?_  -- simplex.go:83
        refine steps_nil ?_
        exact at_round (j + 1, g', cur', cap') ⟨by dsimp only; omega, by dsimp only; omega, by dsimp only; rw [ems]; simpa using hM⟩ (by dsimp only; omega) (subs ⟨rfl, by dsimp only; rw [ejn]; rfl, rfl, rfl, rfl, rfl, rfl, rfl, rfl, trivial⟩) (subs ⟨rfl, rfl, rfl, rfl, by dsimp only; rw [efst]; rfl, rfl, trivial⟩)
    · -- no 2
      have hj : ¬ j < k := of_decide_eq_false hc2
      obtain rfl : j = k := by omega
      have hwl : (wI ps).length = j.toNat + 1 := by rw [wI_ms ps h1 hn]; simp [ms_len]
      refine cw_exit ?_
      refine at_then ?_
      refine cw_sr ?_
      refine steps_q rfl (q_move rfl) ?_  -- simplex.go:87
      refine steps_q rfl (q_loadW 8 agg31 rfl rfl rfl) ?_  -- simplex.go:87
      refine steps_q rfl (q_indexSl slc106 rfl rfl (by omega) (by omega)) ?_  -- simplex.go:87
      refine steps_s (s_storeA 61 siz31 rfl rfl rfl rfl rfl (by have := hsv.1; have h2 := hsv.2.1; rw [hmsl] at h2; omega) rfl ?_)  -- simplex.go:87
      refine steps_nil ?_
      refine cw_sd mixed [0, 2] 2 (without _ [3]) (by kernel_rfl) (sub_without _ _) ?_
      refine qi_q rfl rfl (q_move rfl) ?_  -- simplex.go:88
      refine qi_q rfl rfl (q_assign rfl) ?_  -- simplex.go:88
      refine qi_nil ?_
      refine tail_one 1 (by kernel_rfl) rfl rfl ((q_loadW 3 agg31 rfl rfl rfl).step rfl (by decide) ⟨(sub_without _ _), ?_⟩)  -- simplex.go:88
      refine tail_one 3 (by kernel_rfl) rfl rfl (s_storeW 3 siz31 rfl rfl rfl rfl rfl rfl ⟨(subl_cons rfl (sub_without _ _)), ?_⟩)  -- simplex.go:88
      refine tail_nil (by kernel_rfl) ?_
      refine cw_ret ?_
      exact at_ret rfl (rv_tmp rfl (rv_agg 3 agg31 rfl rfl rfl rv_nil)) fun w' hw => ⟨_, _, rfl, ⟨g, wr cur 0 (Wl (dI ps - tot (ms ps j.toNat))), cap, by rw [hwl]; rfl, rfl, by rw [wI_ms ps h1 hn]; exact sv_set0 hsv rfl⟩, hw.weaken (subs ⟨rfl, trivial⟩)⟩
end Go.Proofs.YtomdahjakkifbaaGreat

/-
  Blocks by other numbers; a row of blocks; a range over a function that makes what it hands out.
-/
namespace Go.NP
open Go Go.RowKit
section
variable {P : Program} {w0 : World} {M : List Nat} {N : Nat} {D : Dfr} {T : TL} {L : HL} {Q : Exit → Act → World → Prop}

/-! ## By other numbers -/
def SubR (ρ : Nat → Nat) (L' L : HL) : Prop := (∀ i x, look L' i = some x → look L (ρ i) = some x) ∧ ∀ i j x y, look L' i = some x → look L' j = some y → ρ i = ρ j → i = j
theorem St.ren {w : World} {L' : HL} (ρ : Nat → Nat) (h : St w0 M w L) (hs : SubR ρ L' L) : St w0 M w L' :=
  ⟨h.os, h.tape, h.output, h.size, h.old, fun i b o hl => h.known (ρ i) b o (hs.1 i _ hl), fun i j b o c p h1 h2 hne => h.apart (ρ i) (ρ j) b o c p (hs.1 i _ h1) (hs.1 j _ h2) fun e => hne (hs.2 i j _ _ h1 h2 e)⟩
theorem CW.ren {c : Code} {L' : HL} (ρ : Nat → Nat) (h : CW P w0 M N D c T L' Q) (hs : SubR ρ L' L) : CW P w0 M N D c T L Q := fun a w ha hw => h a w ha (hw.ren ρ hs)
theorem At.ren {e : Exit} {L' : HL} (ρ : Nat → Nat) (h : At w0 M N D Q e T L') (hs : SubR ρ L' L) : At w0 M N D Q e T L := fun a w ha hw => h a w ha (hw.ren ρ hs)
theorem St.only {w : World} {i j b : Nat} {o : Obj} (h : St w0 M w L) (hl : look L j = some (b, o)) : St w0 M w [(i, (b, o))] := by
  refine ⟨h.os, h.tape, h.output, h.size, h.old, fun k c p hk => ?_, fun k m c p d q h1 h2 hne => ?_⟩
  · rw [look_cons] at hk
    split at hk
    · cases hk; exact h.known j b o hl
    · simp [look] at hk
  · rw [look_cons] at h1 h2
    split at h1
    · split at h2
      · omega
      · simp [look] at h2
    · simp [look] at h1

/-! ## A row of blocks -/
def rowL (e : TypeId) : Nat → List (Nat × List Value × Nat) → HL
  | _, [] => []
  | k, q :: r => (k, (q.1, .cells q.2.1.toArray e (0, 0))) :: rowL e (k + 1) r
theorem look_rowL {e : TypeId} : ∀ {r : List (Nat × List Value × Nat)} {k i : Nat} {x : Nat × Obj}, look (rowL e k r) i = some x → k ≤ i ∧ ∃ q, r[i - k]? = some q ∧ x = (q.1, .cells q.2.1.toArray e (0, 0))
  | [], _, _, _, h => by simp [rowL, look] at h
  | q :: r, k, i, x, h => by
    simp only [rowL] at h
    rw [look_cons] at h
    split at h
    · rename_i he; subst he; cases h
      exact ⟨Nat.le_refl _, q, by simp, rfl⟩
    · rename_i he
      obtain ⟨h1, q', h2, h3⟩ := look_rowL h
      refine ⟨by omega, q', ?_, h3⟩
      rw [show i - k = (i - (k + 1)) + 1 by omega]
      simpa using h2
theorem rowL_look {e : TypeId} : ∀ {r : List (Nat × List Value × Nat)} {k i : Nat} {q : Nat × List Value × Nat}, r[i]? = some q → look (rowL e k r) (k + i) = some (q.1, .cells q.2.1.toArray e (0, 0))
  | q' :: r, k, 0, q, h => by simp at h; subst h; simp [rowL, look_cons]
  | q' :: r, k, i + 1, q, h => by
    have := rowL_look (e := e) (r := r) (k := k + 1) (i := i) (q := q) (by simpa using h)
    simp only [rowL]
    rw [look_cons, if_neg (by omega), show k + (i + 1) = k + 1 + i by omega]
    exact this
  | [], _, _, _, h => by simp at h
theorem bigL_rowL {e : TypeId} : ∀ {r : List (Nat × List Value × Nat)} {k : Nat}, 1000 ≤ k → bigL (rowL e k r) = true
  | [], _, _ => rfl
  | q :: r, k, h => by simp [rowL, bigL, bigL_rowL (r := r) (k := k + 1) (by omega), h]
/-- What is known ahead of the row, and the row as it is. -/
theorem sub_app {A R L : HL} (h1 : SubL A L) (h2 : SubL R L) : SubL (A ++ R) L := fun i x hx => by
  rw [look_append] at hx
  cases ha : look A i with
  | some y => rw [ha] at hx; cases hx; exact h1 i _ ha
  | none => rw [ha] at hx; exact h2 i _ hx
theorem rowl_cons {e : TypeId} {r : List (Nat × List Value × Nat)} {i : Nat} {x : Nat × Obj} {L : HL} (hi : Nat.blt i 1000 = true) (h : SubL (rowL e 1000 r) L) : SubL (rowL e 1000 r) ((i, x) :: L) := fun j y hj => by
  obtain ⟨h1, _⟩ := look_rowL hj
  have : i < 1000 := by simpa [Nat.blt_eq] using hi
  rw [look_cons, if_neg (by omega)]
  exact h j y hj
/-- The row grows by a block that had a number of its own. -/
theorem row_more {A L : HL} {e : TypeId} {r : List (Nat × List Value × Nat)} (q : Nat × List Value × Nat) (j : Nat) (hA : okL A = true) (h : SubL A L) (hr : SubL (rowL e 1000 r) L) (hj1 : Nat.blt j 1000 = true) (hj : look L j = some (q.1, .cells q.2.1.toArray e (0, 0))) (hjA : look A j = none) :
    SubR (fun i => if i = 1000 + r.length then j else i) (A ++ rowL e 1000 (r ++ [q])) L := by
  have hj1 : j < 1000 := by simpa [Nat.blt_eq] using hj1
  have main : ∀ i x, look (A ++ rowL e 1000 (r ++ [q])) i = some x → (i < 1000 ∧ look A i = some x) ∨ (1000 ≤ i ∧ ∃ p, (r ++ [q])[i - 1000]? = some p ∧ x = (p.1, .cells p.2.1.toArray e (0, 0))) := by
    intro i x hx
    rw [look_append] at hx
    cases ha : look A i with
    | some y => rw [ha] at hx; cases hx; exact .inl ⟨okL_small hA ha, rfl⟩
    | none => rw [ha] at hx; exact .inr (look_rowL hx)
  refine ⟨fun i x hx => ?_, fun i k x y hx hy he => ?_⟩
  · show look _ (if i = 1000 + r.length then j else i) = _
    rcases main i x hx with ⟨h1, h2⟩ | ⟨h1, p, h2, rfl⟩
    · rw [if_neg (by omega), h i x h2]
    · by_cases hi : i = 1000 + r.length
      · rw [if_pos hi, hj]
        subst hi
        rw [show 1000 + r.length - 1000 = r.length by omega] at h2
        simp at h2; subst h2; rfl
      · rw [if_neg hi]
        have hlt : i - 1000 < r.length := by
          have := (List.getElem?_eq_some_iff.1 h2).1
          simp at this; omega
        rw [List.getElem?_append_left hlt] at h2
        have := rowL_look (e := e) (k := 1000) h2
        rw [show 1000 + (i - 1000) = i by omega] at this
        exact hr i _ this
  · have hne : ∀ m z, look (A ++ rowL e 1000 (r ++ [q])) m = some z → m ≠ j := fun m z hm hmj => by
      rcases main m z hm with ⟨h1, h2⟩ | ⟨h1, _⟩
      · subst hmj; rw [hjA] at h2; cases h2
      · omega
    have := hne i x hx
    have := hne k y hy
    have he : (if i = 1000 + r.length then j else i) = (if k = 1000 + r.length then j else k) := he
    split at he <;> split at he <;> omega

/-! ## A function that makes what it hands to yield -/
/-- n rounds; X: what may be handed out in a round, and what memory of the function's own it takes. -/
def IterX (P : Program) (f : FuncId) (lb : List Value) (n : Nat) (X : Nat → List Value → HL → Prop) (Need : HL → Prop) : Prop :=
  ∀ w0 M l (J : Nat → HL → Prop) (Jx : Nat → List Value → HL → Prop), (∀ i Lt, J i Lt → Need Lt) →
    (∀ i x Lo, i < n → X i x Lo → bigL Lo = true → ∀ Lt, J i Lt → okL Lt = true → ∀ W, St w0 M W (Lo ++ Lt) → YieldAt (fw none) 0 P l x.toArray W (Rnd (J (i + 1)) (Jx i x) W Lt)) →
    ∀ Lt W, J 0 Lt → okL Lt = true → St w0 M W Lt →
    Calls P f (Value.func (.yield l) #[] #[] :: lb).toArray W fun e W' => (∃ v, e = .returned v) ∧ ∃ Lt', okL Lt' = true ∧ ((J n Lt' ∧ St w0 M W' Lt') ∨ ∃ i x Lo, X i x Lo ∧ bigL Lo = true ∧ Jx i x Lt' ∧ St w0 M W' (Lo ++ Lt'))
/-- A call of yield, of which more is known. -/
theorem s_yieldX {d : Nat} {x : Operand} {args : Array Operand} {ts : Array TypeId} {l : Nat} {vs : List Value} {t : TypeId} {p : String} {af : Array Edge} {g : Option (Nat × Bool)} {K : TL → HL → Prop} {Q : Exit → Act → World → Prop}
    {J Jx : HL → Prop} (Lo Lt : HL) (hN : Nat.blt d N = true) (hx : ev T x = some (.func (.yield l) #[] #[])) (hv : evs T args.toList = some vs) (ho : bigL Lo = true) (ht : okL Lt = true)
    (hY : ∀ W, St w0 M W (Lo ++ Lt) → YieldAt (fw none) 0 P l vs.toArray W (Rnd J Jx W Lt))
    (k : ∀ b Lt', okL Lt' = true → (if b then J Lt' else Jx Lt') → K ((d, .bool b) :: T) (Lo ++ Lt')) :
    Step P w0 M N D { dst := some d, op := .call { callee := .value x, args := args, argTypes := ts }, type := t, pos := p, after := af, guard := g } T (Lo ++ Lt) K Q := by
  intro a w ha hw
  obtain ⟨fn, tmps, assign, body, hy, hR⟩ := hY w hw
  refine ⟨fun _ _ => trivial, ?_⟩
  have e1 : args.map a.eval = vs.toArray := by rw [← ha.evs hv]; simp [← Array.toList_map]
  have hr : (execOp a.eval { dst := some d, op := .call { callee := .value x, args := args, argTypes := ts }, type := t, pos := p, after := af, guard := g }).run P w = .ok (.round l fn tmps assign body) w := by
    simp [execOp, resolve, ha.ev hx, e1, Deferred.ofValue, invoke, hy]
  rw [Oper.semAt_eq _ _ _ (fun c h => by cases h), hr]
  refine ⟨fun hd => (nomatch (hd : false = true)), ?_⟩
  refine RoundIn.mono hR fun e W' ⟨b, Lt', he, hk', hs, hb⟩ => ?_
  subst he
  exact ⟨_, _, ha.put (by simpa [Nat.blt_eq] using hN) _, hw.comp ho ht hk' hs, k b Lt' hk' hb⟩
theorem recL_app {l nD : Nat} {rc : Loop} {Lc Lo : HL} {i : Nat} {x : Nat × Obj} (h9 : i ≠ 900) (hx : look ((901, (nD, .deferred (some []))) :: (Lo ++ Lc)) i = some x) (ho : bigL Lo = true) : look (Lo ++ recL l nD rc Lc) i = some x := by
  rw [look_append]
  rw [look_cons] at hx
  split at hx
  · rename_i e; subst e; cases hx
    cases hl : look Lo 901 with
    | some y => have := bigL_great ho hl; omega
    | none => rfl
  · rename_i e
    rw [look_append] at hx
    cases hl : look Lo i with
    | some y => rw [hl] at hx; exact hx
    | none =>
      rw [hl] at hx
      rw [recL, look_cons, if_neg (Ne.symm h9), look_cons, if_neg e]
      exact hx

/-- 'for .. := range g { .. }', where g makes what it hands out. -/
theorem cw_rangeX {g : Operand} {ps : List Tmp} {assign body : Code} {gf : FuncId} {lb : List Value} {n : Nat} {X : Nat → List Value → HL → Prop} {Need : HL → Prop} (J : Nat → HL → Prop) (Jx : Nat → List Value → Code → HL → Prop) (L0 : HL)
    (hg : ev T g = some (.func (.func gf) #[] lb.toArray)) (he : Ent P gf) (hIt : IterX P gf lb n X Need) (hps : ∀ i x Lo, X i x Lo → x.length = ps.length) (hpN : (ps.all fun p => Nat.blt p N) = true)
    (hok : ∀ i Lc, J i Lc → okR Lc = true) (hNeed : ∀ i Lc a b, J i Lc → Need ((900, a) :: (901, b) :: Lc))
    (h0 : J 0 L0) (hL : SubL L0 L)
    (hround : ∀ l nD rc i x Lo Lc, i < n → X i x Lo → bigL Lo = true → J i Lc → ∀ W, St w0 M W (Lo ++ recL l nD { rc with state := .ready, pending := none } Lc) →
      CW P W (blocks (recL l nD { rc with state := .ready, pending := none } Lc)) N ⟨[], some l⟩ assign (zipT ps x T) (recL l nD { rc with state := .ready, pending := none } Lc)
        (Begun P l body (roundPost P l (Rnd (RJ l nD rc J (i + 1)) (RX l nD rc (Jx i x)) W (recL l nD { rc with state := .ready, pending := none } Lc)))))
    (hdone : ∀ nD Lc, J n Lc → At w0 M N (Dm nD) Q .normal T ((901, (nD, .deferred (some []))) :: Lc))
    (hstop : ∀ nD i x Lo c Lc, X i x Lo → bigL Lo = true → Jx i x c Lc → CW P w0 M N (Dm nD) c T ((901, (nD, .deferred (some []))) :: (Lo ++ Lc)) Q) :
    CW P w0 M N D0 (.rangeFunc g ps.toArray assign body) T L Q := by
  intro a w ha hw
  refine wpIn_rangeFunc fun fn _ => ?_
  let rc : Loop := { state := .ready, pending := none, fn, tmps := a.tmps, params := ps.toArray, assign, body, defers := w.heap.size }
  have hw0 := (hw.weaken hL)
  have hw1 := (hw0.alloc 901 (.deferred (some []))).alloc 900 (.loop rc)
  rw [World.size_alloc] at hw1
  have hpr : ∀ p ∈ ps, p < N := fun p hp => by have := List.all_eq_true.1 hpN p hp; simpa [Nat.blt_eq] using this
  refine ⟨w.heap.size + 1, [{ target := .collected w.heap.size, args := #[] }], (w.alloc (.deferred (some []))).alloc (.loop rc), { target := .fn (.func gf) lb.toArray, args := #[.func (.yield (w.heap.size + 1)) #[] #[]] }, ((w.alloc (.deferred (some []))).alloc (.loop rc)), gf,
    #[.func (.yield (w.heap.size + 1)) #[] #[]] ++ lb.toArray, ((w.alloc (.deferred (some []))).alloc (.loop rc)), run_enterLoop_outer _ _ _ _ _, ?_, fun _ _ => trivial, ?_, fun hd => (nomatch (hd : false = true)), ?_⟩
  · simp only [resolve, ha.ev hg]
    simp [go_sem]
  · simp [invoke, run_enter he]
  · have hcall := hIt w0 M (w.heap.size + 1) (RJ (w.heap.size + 1) w.heap.size rc J) (fun i x => RX (w.heap.size + 1) w.heap.size rc (Jx i x))
      (fun i Lt ⟨Lc, hJ, hLt⟩ => by subst hLt; exact hNeed i Lc _ _ hJ) ?_ (recL (w.heap.size + 1) w.heap.size rc L0) _ ⟨L0, h0, rfl⟩ (okL_recL (hok 0 L0 h0)) hw1
    · have e : (Value.func (.yield (w.heap.size + 1)) #[] #[] :: lb).toArray = #[.func (.yield (w.heap.size + 1)) #[] #[]] ++ lb.toArray := by simp
      rw [e] at hcall
      refine callsIn_fw (hcall.mono ?_)
      rintro e W2 ⟨⟨v, rfl⟩, Lt', hok', (⟨⟨Lc, hJ, rfl⟩, hst⟩ | ⟨i, x, Lo, hX, ho, ⟨c, Lc, hJ, rfl⟩, hst⟩)⟩
      · refine ⟨none, _, run_endLoop (hst.known 900 _ _ rfl).1 (by simp), ?_⟩
        refine hdone w.heap.size Lc hJ _ _ ⟨ha.size, by show _ ++ a.defers = _; rw [ha.defers]; rfl, ha.tm⟩ ((hst.putObj (.loop _) (i := 900) rfl).weaken fun i x hx => ?_)
        have h9 : i ≠ 900 := by
          rintro rfl
          rw [look_cons, if_neg (by omega)] at hx
          have hr := hok _ Lc hJ
          simp only [okR, Bool.and_eq_true, Bool.not_eq_true'] at hr
          rw [inIds_look hx] at hr; cases hr.1.2
        rw [look_cons, if_neg (Ne.symm h9), recL, look_cons, if_neg (Ne.symm h9)]
        exact hx
      · have h900 : look (Lo ++ recL (w.heap.size + 1) w.heap.size { rc with state := .done, pending := some c } Lc) 900 = some (w.heap.size + 1, .loop { rc with state := .done, pending := some c }) := by
          rw [look_append]
          cases hl : look Lo 900 with
          | some y => have := bigL_great ho hl; omega
          | none => rfl
        refine ⟨some c, _, run_endLoop (hst.known 900 _ _ h900).1 (by simp), ?_⟩
        refine hstop w.heap.size i x Lo c Lc hX ho hJ _ _ ⟨ha.size, by show _ ++ a.defers = _; rw [ha.defers]; rfl, ha.tm⟩ ((hst.putObj (.loop _) (i := 900) h900).weaken fun i x hx => ?_)
        have hr : inIds Lc 900 = false := by
          simp only [recL, okL, Bool.and_eq_true, Bool.not_eq_true', inIds] at hok'
          have := hok'.1.1
          exact (by simpa using this : _ ∧ _).2
        have h9 : i ≠ 900 := by
          rintro rfl
          rw [look_cons, if_neg (by omega), look_append] at hx
          cases hl : look Lo 900 with
          | some y => have := bigL_great ho hl; omega
          | none => rw [hl] at hx; rw [inIds_look hx] at hr; cases hr
        rw [look_cons, if_neg (Ne.symm h9)]
        exact recL_app h9 hx ho
    · -- the rounds
      rintro i x Lo hi hX ho Lt ⟨Lc, hJ, rfl⟩ hk W hW
      have h900 : look (Lo ++ recL (w.heap.size + 1) w.heap.size { rc with state := .ready, pending := none } Lc) 900 = some (w.heap.size + 1, .loop { rc with state := .ready, pending := none }) := by
        rw [look_append]
        cases hl : look Lo 900 with
        | some y => have := bigL_great ho hl; omega
        | none => rfl
      refine ⟨fn, _, assign, body, run_yield (hW.known 900 _ _ h900).1 (by show x.toArray.size = ps.toArray.size; simpa using hps i x Lo hX), roundIn_of_wpIn trivial ?_⟩
      have hfr : Fr N ⟨[], some (w.heap.size + 1)⟩ { tmps := a.tmps, defers := [] } T := ⟨ha.size, rfl, ha.tm⟩
      have hz := fr_zip ps x a.tmps T hpr hfr
      have e : ((rc.params.zip x.toArray).foldl (fun tmps (t, a) => tmps.setIfInBounds t a) rc.tmps) = (ps.zip x).foldl (fun t (p, v) => t.setIfInBounds p v) a.tmps := by
        show ((ps.toArray.zip x.toArray).foldl _ a.tmps) = _
        rw [List.zip_toArray, List.foldl_toArray]
      have := hround (w.heap.size + 1) w.heap.size rc i x Lo Lc hi hX ho hJ W hW _ W (e ▸ hz) (hW.weaken (sub_right ho hk)).within
      exact this
end
end Go.NP

/-
  The walks of math/bits: OnesCount, of small numbers.
-/
namespace Go.Proofs.YtomdahjakkifbaaGreat
open Go Go.NP Go.RowKit Go.Proofs
set_option maxRecDepth 100000

def popc (x : Int) : Int := x % 2 + x / 2 % 2 + x / 4 % 2 + x / 8 % 2
def Small15 (x : Int) : Prop := x = 1 ∨ x = 2 ∨ x = 3 ∨ x = 4 ∨ x = 5 ∨ x = 6 ∨ x = 7 ∨ x = 8 ∨ x = 9 ∨ x = 10 ∨ x = 11 ∨ x = 12 ∨ x = 13 ∨ x = 14 ∨ x = 15
theorem small15 {x : Int} (h0 : 0 < x) (h1 : x ≤ 15) : Small15 x := by unfold Small15; omega
theorem bits_OnesCount64 {x : Int} (h : Small15 x) : PureF Tryz.prog 142 [.int .u64 x] (.int .i64 (popc x)) := by
  rcases h with rfl | rfl | rfl | rfl | rfl | rfl | rfl | rfl | rfl | rfl | rfl | rfl | rfl | rfl | rfl
  all_goals
    refine pure_of Tryz.func142 rfl Tryz.ntmps142 rfl fun w => ?_
    refine cw_sr ?_
    refine steps_q rfl (q_assign rfl) ?_  -- bits.go:140
    refine steps_nil ?_
    refine cw_sr ?_
    refine steps_q rfl (q_move rfl) ?_  -- bits.go:161
    refine steps_q rfl (q_bin rfl rfl rfl) ?_  -- bits.go:161
    refine steps_q rfl (q_bin rfl rfl rfl) ?_  -- bits.go:161
    refine steps_q rfl (q_move rfl) ?_  -- bits.go:161
    refine steps_q rfl (q_bin rfl rfl rfl) ?_  -- bits.go:161
    refine steps_q rfl (q_bin rfl rfl rfl) ?_  -- bits.go:161
    refine steps_q rfl (q_assign rfl) ?_  -- bits.go:161
    refine steps_nil ?_
    refine cw_sr ?_
    refine steps_q rfl (q_move rfl) ?_  -- bits.go:162
    refine steps_q rfl (q_bin rfl rfl rfl) ?_  -- bits.go:162
    refine steps_q rfl (q_bin rfl rfl rfl) ?_  -- bits.go:162
    refine steps_q rfl (q_move rfl) ?_  -- bits.go:162
    refine steps_q rfl (q_bin rfl rfl rfl) ?_  -- bits.go:162
    refine steps_q rfl (q_bin rfl rfl rfl) ?_  -- bits.go:162
    refine steps_q rfl (q_assign rfl) ?_  -- bits.go:162
    refine steps_nil ?_
    refine cw_sr ?_
    refine steps_q rfl (q_move rfl) ?_  -- bits.go:163
    refine steps_q rfl (q_bin rfl rfl rfl) ?_  -- bits.go:163
    refine steps_q rfl (q_move rfl) ?_  -- bits.go:163
    refine steps_q rfl (q_bin rfl rfl rfl) ?_  -- bits.go:163
    refine steps_q rfl (q_bin rfl rfl rfl) ?_  -- bits.go:163
    refine steps_q rfl (q_assign rfl) ?_  -- bits.go:163
    refine steps_nil ?_
    refine cw_sr ?_
    refine steps_q rfl (q_move rfl) ?_  -- bits.go:164
    refine steps_q rfl (q_move rfl) ?_  -- bits.go:164
    refine steps_q rfl (q_bin rfl rfl rfl) ?_  -- bits.go:164
    refine steps_q rfl (q_bin rfl rfl rfl) ?_  -- bits.go:164
    refine steps_q rfl (q_assign rfl) ?_  -- bits.go:164
    refine steps_nil ?_
    refine cw_sr ?_
    refine steps_q rfl (q_move rfl) ?_  -- bits.go:165
    refine steps_q rfl (q_move rfl) ?_  -- bits.go:165
    refine steps_q rfl (q_bin rfl rfl rfl) ?_  -- bits.go:165
    refine steps_q rfl (q_bin rfl rfl rfl) ?_  -- bits.go:165
    refine steps_q rfl (q_assign rfl) ?_  -- bits.go:165
    refine steps_nil ?_
    refine cw_sr ?_
    refine steps_q rfl (q_move rfl) ?_  -- bits.go:166
    refine steps_q rfl (q_move rfl) ?_  -- bits.go:166
    refine steps_q rfl (q_bin rfl rfl rfl) ?_  -- bits.go:166
    refine steps_q rfl (q_bin rfl rfl rfl) ?_  -- bits.go:166
    refine steps_q rfl (q_assign rfl) ?_  -- bits.go:166
    refine steps_nil ?_
    refine cw_sr ?_
    refine steps_q rfl (q_move rfl) ?_  -- bits.go:167
    refine steps_q rfl (q_conv conv28_3 rfl rfl) ?_  -- bits.go:167
    refine steps_q rfl (q_bin rfl rfl rfl) ?_  -- bits.go:167
    refine steps_q rfl (q_assign rfl) ?_  -- bits.go:167
    refine steps_nil ?_
    refine cw_ret ?_
    exact ret_pure rfl (rv_tmp rfl rv_nil) (by kernel_rfl)
theorem bits_OnesCount {x : Int} (h : Small15 x) : PureF Tryz.prog 99 [.int .u64 x] (.int .i64 (popc x)) := by
  refine pure_of Tryz.func99 rfl Tryz.ntmps99 rfl fun w => ?_
  refine cw_sr ?_
  refine steps_q rfl (q_assign rfl) ?_  -- bits.go:117
  refine steps_nil ?_
  refine cw_seq ?_
  refine cw_cond _ rfl (fun hc1 => ?_) (fun hc1 => ?_)
  · cases hc1
  · -- no 1
    refine cw_skip ?_
    refine at_then ?_
    refine cw_sr ?_
    refine steps_q rfl (q_move rfl) ?_  -- bits.go:121
    refine steps_q rfl (q_pure ent142 rfl (bits_OnesCount64 h)) ?_  -- bits.go:121
    refine steps_q rfl (q_assign rfl) ?_  -- bits.go:121
    refine steps_nil ?_
    refine cw_ret ?_
    exact ret_pure rfl (rv_tmp rfl rv_nil) rfl
end Go.Proofs.YtomdahjakkifbaaGreat

/-
  The walks of package simplex: sized.
-/
namespace Go.Proofs.YtomdahjakkifbaaGreat
open Go Go.NP Go.RowKit Go.Proofs
set_option maxRecDepth 100000

theorem shr64 {a b : Int} (h : 0 ≤ b) : binI .shr .i64 a .i64 b = some (.int .i64 (a.fdiv (2 ^ (min b.toNat IntKind.i64.bits)))) := if_pos h
/-- Is place k of n chosen by a set? -/
def bitB (n s k : Int) : Bool := (IntKind.i64.wrap (BitVec.ofInt IntKind.i64.bits (s.fdiv (2 ^ (min (n - 1 - k).toNat IntKind.i64.bits))) &&& BitVec.ofInt IntKind.i64.bits 1).toNat) == 1
def bts (n s : Int) : Nat → List Int
  | 0 => []
  | k + 1 => if bitB n s k then bts n s k ++ [(k : Int)] else bts n s k
def topI (n : Int) : Int := if n = 1 then 1 else if n = 2 then 3 else if n = 3 then 7 else 15
/-- The choices of so many, of the first m sets from the top. -/
def cmbs (n size : Int) : Nat → List (List Int)
  | 0 => []
  | m + 1 => if popc (topI n - m) = size then cmbs n size m ++ [bts n (topI n - m) n.toNat] else cmbs n size m
def sizedI (n size : Int) : List (List Int) := cmbs n size (topI n).toNat
theorem bts_le (n s : Int) : ∀ k, (bts n s k).length ≤ k
  | 0 => Nat.le_refl 0
  | k + 1 => by
    have := bts_le n s k
    simp only [bts]; split
    · simp; omega
    · omega
theorem cmbs_le (n size : Int) : ∀ m, (cmbs n size m).length ≤ m
  | 0 => Nat.le_refl 0
  | k + 1 => by
    have := cmbs_le n size k
    simp only [cmbs]; split
    · simp; omega
    · omega
def N4 (n : Int) : Prop := n = 1 ∨ n = 2 ∨ n = 3 ∨ n = 4
theorem n4 {n : Int} (h0 : 1 ≤ n) (h1 : n ≤ 4) : N4 n := by unfold N4; omega
theorem top_sh {n : Int} (h : N4 n) : shI .i64 1 n = topI n + 1 ∧ 1 ≤ topI n ∧ topI n ≤ 15 := by
  rcases h with rfl | rfl | rfl | rfl <;> decide
theorem bts_len {n s : Int} (h : N4 n) (h0 : 0 < s) (h1 : s ≤ topI n) : ((bts n s n.toNat).length : Int) = popc s := by
  have hs := small15 h0 (Int.le_trans h1 (top_sh h).2.2)
  rcases h with rfl | rfl | rfl | rfl <;> rcases hs with rfl | rfl | rfl | rfl | rfl | rfl | rfl | rfl | rfl | rfl | rfl | rfl | rfl | rfl | rfl <;> first | rfl | (exfalso; revert h1; decide)

/-- The choices, as the program has them. -/
def okRow (inn : List (Nat × List Value × Nat)) (cs : List (List Int)) : Prop := inn.length = cs.length ∧ ∀ (j : Nat) q c, inn[j]? = some q → cs[j]? = some c → SV.ok 1 (some q) (c.map intC)
def valsOf : List (Nat × List Value × Nat) → List (List Int) → List (List Value)
  | q :: r, c :: s => [.slice (some ⟨q.1, 0, none⟩) c.length q.2.2] :: valsOf r s
  | _, _ => []
theorem valsOf_len : ∀ {inn : List (Nat × List Value × Nat)} {cs : List (List Int)}, inn.length = cs.length → (valsOf inn cs).length = cs.length
  | [], [], _ => rfl
  | _ :: _, _ :: _, h => by simp only [valsOf, List.length_cons, valsOf_len (Nat.succ.inj h)]
  | [], _ :: _, h => by cases h
  | _ :: _, [], h => by cases h
theorem valsOf_get : ∀ {inn : List (Nat × List Value × Nat)} {cs : List (List Int)} {j : Nat} {q : Nat × List Value × Nat} {c : List Int}, inn[j]? = some q → cs[j]? = some c → (valsOf inn cs)[j]? = some [.slice (some ⟨q.1, 0, none⟩) c.length q.2.2]
  | _ :: _, _ :: _, 0, _, _, h, k => by simp at h k; subst h k; rfl
  | _ :: _, _ :: _, j + 1, _, _, h, k => by simpa [valsOf] using valsOf_get (by simpa using h) (by simpa using k)
  | [], _, _, _, _, h, _ => by simp at h
  | _ :: _, [], _, _, _, _, k => by simp at k
theorem valsOf_more : ∀ {inn : List (Nat × List Value × Nat)} {cs : List (List Int)} (q : Nat × List Value × Nat) (c : List Int), inn.length = cs.length → valsOf (inn ++ [q]) (cs ++ [c]) = valsOf inn cs ++ [[.slice (some ⟨q.1, 0, none⟩) c.length q.2.2]]
  | [], [], _, _, _ => rfl
  | _ :: _, _ :: _, q, c, h => by simp only [List.cons_append, valsOf, valsOf_more q c (Nat.succ.inj h)]
  | [], _ :: _, _, _, h => by cases h
  | _ :: _, [], _, _, h => by cases h
theorem okRow_more {inn : List (Nat × List Value × Nat)} {cs : List (List Int)} {q : Nat × List Value × Nat} {c : List Int} (h : okRow inn cs) (hq : SV.ok 1 (some q) (c.map intC)) : okRow (inn ++ [q]) (cs ++ [c]) := by
  refine ⟨by simp [h.1], fun j q' c' h1 h2 => ?_⟩
  by_cases hj : j < inn.length
  · rw [List.getElem?_append_left hj] at h1
    rw [List.getElem?_append_left (by have := h.1; omega)] at h2
    exact h.2 j q' c' h1 h2
  · have hj' : j = inn.length := by
      have := (List.getElem?_eq_some_iff.1 h1).1
      simp at this; omega
    subst hj'
    rw [List.getElem?_append_right (Nat.le_refl _)] at h1
    rw [List.getElem?_append_right (by have := h.1; omega), h.1] at h2
    simp at h1 h2
    subst h1 h2
    exact hq
theorem bslS (g n cap : Nat) : ∀ w, (Instr.buildSlice 104 1 [(0, Value.slice (some ⟨g, 0, none⟩) n cap)].toArray).run Tryz.prog w = .ok (.slice (some ⟨w.heap.size, 0, none⟩) 1 1) (w.alloc (.cells [Value.slice (some ⟨g, 0, none⟩) n cap].toArray 34)) := fun w => by kernel_rfl
theorem sized_ne {n size : Int} (h : N4 n) (s0 : 1 ≤ size) (s1 : size ≤ n) : sizedI n size ≠ [] := by
  rcases h with rfl | rfl | rfl | rfl
  · obtain rfl : size = 1 := by omega
    decide
  · have : size = 1 ∨ size = 2 := by omega
    rcases this with rfl | rfl <;> decide
  · have : size = 1 ∨ size = 2 ∨ size = 3 := by omega
    rcases this with rfl | rfl | rfl <;> decide
  · have : size = 1 ∨ size = 2 ∨ size = 3 ∨ size = 4 := by omega
    rcases this with rfl | rfl | rfl | rfl <;> decide
theorem SV.len0 {s : Nat} {xs : List (List Value)} (h : SV.ok s none xs) : xs.length = 0 := by have h : xs = [] := h; rw [h]; rfl
theorem row_top {e : TypeId} {r : List (Nat × List Value × Nat)} {x : Nat × Obj} (h : r.length ≤ 4000) : SubR (fun i => if i = 5000 then 62 else i) ((5000, x) :: rowL e 1000 r) ((62, x) :: rowL e 1000 r) := by
  have hr : ∀ i y, NP.look (rowL e 1000 r) i = some y → 1000 ≤ i ∧ i < 5000 := fun i y hi => by
    obtain ⟨h1, q, h2, _⟩ := look_rowL hi
    have := (List.getElem?_eq_some_iff.1 h2).1
    omega
  refine ⟨fun i y hi => ?_, fun i k y z hi hk he => ?_⟩
  · show NP.look _ (if i = 5000 then 62 else i) = _
    rw [look_cons] at hi
    split at hi
    · rename_i e5; subst e5; rw [if_pos rfl, look_cons, if_pos rfl]; exact hi
    · rename_i e5
      have := hr i y hi
      rw [if_neg (by omega), look_cons, if_neg (by omega)]
      exact hi
  · have he : (if i = 5000 then 62 else i) = (if k = 5000 then 62 else k) := he
    rw [look_cons] at hi hk
    split at hi <;> split at hk
    · omega
    · have := hr k z hk; split at he <;> split at he <;> omega
    · have := hr i y hi; split at he <;> split at he <;> omega
    · have := hr k z hk; have := hr i y hi; split at he <;> split at he <;> omega
/-- What sized hands back. -/
def ZR (cs : List (List Int)) (v : Value) (Ln : HL) : Prop := ∃ g cur cap inn, v = .slice (some ⟨g, 0, none⟩) cs.length cap ∧ Ln = (5000, (g, .cells cur.toArray 34 (0, 0))) :: rowL 3 1000 inn ∧ okRow inn cs ∧ SV.ok 1 (some (g, cur, cap)) (valsOf inn cs)

set_option maxHeartbeats 4000000 in
theorem simplex_sized {n size : Int} (w : World) (hn : N4 n) (s0 : 1 ≤ size) (s1 : size ≤ n) :
    Calls Tryz.prog 65 #[.int .i64 n, .int .i64 size] w fun e w' => ∃ v Ln, e = .returned v ∧ ZR (sizedI n size) v Ln ∧ St w [] w' Ln := by
  obtain ⟨t1, t2, t3⟩ := top_sh hn
  have nb : 1 ≤ n ∧ n ≤ 4 := by unfold N4 at hn; omega
  refine calls_of Tryz.func65 rfl Tryz.ntmps65 rfl (St.start w) (args := [.int .i64 n, .int .i64 size]) ?_
  refine cw_sr ?_
  refine steps_q rfl (q_assign rfl) ?_  -- simplex.go:49
  refine steps_nil ?_
  refine cw_sr ?_
  refine steps_q rfl (q_assign rfl) ?_  -- simplex.go:50
  refine steps_nil ?_
  refine cw_seq ?_
  refine cw_sr ?_
  refine steps_q rfl (q_move rfl) ?_  -- simplex.go:51
  refine steps_q rfl (q_bin rfl rfl (show binI .shl .i64 1 .i64 n = some (.int .i64 (topI n + 1)) by rw [← t1]; exact if_pos (by omega))) ?_  -- simplex.go:51
  refine steps_q rfl (q_bin rfl rfl (sub64 (by omega) (by omega))) ?_  -- simplex.go:51
  refine steps_q rfl (q_assign rfl) ?_  -- simplex.go:51
  refine steps_nil ?_
  refine cw_block ?_
  -- LOOP 1 writes [5, 6, 7, 8, 12, 13, 14, 15, 16, 17, 18, 19, 20, 21, 22, 23, 24, 25, 26, 27, 28, 29, 30, 31, 32, 33, 34, 35, 36, 37, 38, 39, 40, 41]  stores via []  reads [0, 1]
  refine cw_loop (S := Nat × SV × List (Nat × List Value × Nat)) (fun s => [(0, .int .i64 n), (1, .int .i64 size), (5, s.2.1.v (cmbs n size s.1).length), (6, .int .i64 (topI n - s.1))]) (fun s => s.2.1.l 62 34 ++ rowL 3 1000 s.2.2) (fun s => (s.1 : Int) ≤ topI n ∧ okRow s.2.2 (cmbs n size s.1) ∧ s.2.1.ok 1 (valsOf s.2.2 (cmbs n size s.1))) (fun s => (topI n - s.1).toNat) (0, none, []) ⟨by dsimp only; omega, ⟨rfl, fun j q c h => by simp at h⟩, rfl⟩ (subs ⟨rfl, rfl, rfl, by dsimp only; rw [show topI n + 1 - 1 = topI n - ((0 : Nat) : Int) by omega]; rfl, trivial⟩) (subs trivial) ?_
  rintro ⟨m, out, inn⟩ ⟨m0, hrow, hout⟩
  dsimp only at m0 hrow hout
  conv => enter [7]; dsimp only
  conv => enter [8]; dsimp only
  have hcl := cmbs_le n size m
  have hvl := valsOf_len hrow.1
  refine cw_seq ?_
  refine cw_sr ?_
  refine steps_q rfl (q_move rfl) ?_  -- simplex.go:51
  refine steps_q rfl (q_bin rfl rfl rfl) ?_  -- simplex.go:51
  refine steps_nil ?_
  refine cw_cond _ rfl (fun hc1 => ?_) (fun hc1 => ?_)
  · -- yes 1
    have hs : 0 < topI n - m := of_decide_eq_true hc1
    have h15 := small15 hs (by omega)
    refine cw_skip ?_
    refine at_then ?_
    refine cw_seq ?_
    refine cw_block ?_
    refine cw_seq ?_
    refine cw_sr ?_
    refine steps_q rfl (q_move rfl) ?_  -- simplex.go:52
    refine steps_q rfl (q_conv conv3_72 rfl rfl) ?_  -- simplex.go:52
    rw [IntWalk.u64_in _ (by omega)]
    refine steps_q rfl (q_pure ent99 rfl (bits_OnesCount h15)) ?_  -- simplex.go:52
    refine steps_q rfl (q_move rfl) ?_  -- simplex.go:52
    refine steps_q rfl (q_bin rfl rfl rfl) ?_  -- simplex.go:52
    refine steps_nil ?_
    refine cw_cond _ rfl (fun hc2 => ?_) (fun hc2 => ?_)
    · -- yes 2
      have hp : ¬ popc (topI n - m) = size := by simpa using hc2
      have ec : cmbs n size (m + 1) = cmbs n size m := if_neg hp
      refine cw_exit ?_
      refine at_then ?_
      refine cw_region ?_
      refine steps_q rfl (q_move rfl) ?_  -- simplex.go:51
      refine steps_q rfl (q_bin rfl rfl (sub64 (by omega) (by omega))) ?_  -- simplex.go:51
      refine steps_q rfl (q_assign rfl) ?_  -- simplex.go:51
      refine steps_nil ?_
      first
        | exact at_round (m + 1, out, inn) ⟨by dsimp only; omega, by dsimp only; rw [ec]; exact hrow, by dsimp only; rw [ec]; exact hout⟩ (by dsimp only; omega) (subs ⟨rfl, rfl, by dsimp only; rw [ec]; rfl, by dsimp only; rw [show topI n - ((m + 1 : Nat) : Int) = topI n - m - 1 by omega]; rfl, trivial⟩) (SubL.refl _)
        | refine At.ren _ (at_round (m + 1, some (g2, cur2, cap2), inn ++ [(g1, cur1, cap1)]) ⟨by dsimp only; omega, by dsimp only; exact hrm, by dsimp only; rw [hvm]; exact hk2⟩ (by dsimp only; omega) (subs ⟨rfl, rfl, by dsimp only; rw [elc]; rfl, by dsimp only; rw [show topI n - ((m + 1 : Nat) : Int) = topI n - m - 1 by omega]; rfl, trivial⟩) (SubL.refl _)) (row_more (A := [(62, (g2, .cells cur2.toArray 34 (0, 0)))]) (g1, cur1, cap1) 61 rfl (subs ⟨rfl, trivial⟩) (by repeat (first | exact SubL.refl _ | refine rowl_cons rfl ?_)) rfl rfl rfl)
    · -- no 2
      have hp : popc (topI n - m) = size := by simpa using hc2
      have ec : cmbs n size (m + 1) = cmbs n size m ++ [bts n (topI n - m) n.toNat] := if_pos hp
      obtain ⟨R, hRe⟩ : ∃ R : HL, R = out.l 62 34 ++ rowL 3 1000 inn := ⟨_, rfl⟩
      have hR : ∀ i, Nat.blt i 1000 = true → i ≠ 62 → NP.look R i = none := fun i hi h62 => by
        have hi : i < 1000 := by simpa [Nat.blt_eq] using hi
        rw [hRe, look_append]
        have h2 : NP.look (rowL 3 1000 inn) i = none := by
          cases hl : NP.look (rowL 3 1000 inn) i with
          | none => rfl
          | some y => have := (look_rowL hl).1; omega
        rcases out with _ | ⟨g, cur, cap⟩
        · exact h2
        · simp only [SV.l]
          rw [look_cons, if_neg (by omega)]
          exact h2
      rw [← hRe]
      refine cw_skip ?_
      refine at_then ?_
      refine cw_sr ?_
      refine steps_q rfl (q_assign rfl) ?_  -- simplex.go:55
      refine steps_nil ?_
      refine cw_seq ?_
      refine cw_sr ?_
      refine steps_q rfl (q_move rfl) ?_  -- simplex.go:56
      refine steps_q rfl (q_move rfl) ?_  -- simplex.go:56
      refine steps_nil ?_
      refine cw_block ?_
      -- LOOP 2 writes [7, 8, 22, 23, 24, 25, 26, 27, 28, 29, 30, 31, 32, 33, 34, 35, 36, 37]  stores via []  reads [0, 6, 21]
      refine cw_loop (S := Nat × SV) (fun s => [(0, .int .i64 n), (1, .int .i64 size), (5, out.v (cmbs n size m).length), (6, .int .i64 (topI n - m)), (7, s.2.v (bts n (topI n - m) s.1).length), (21, .int .i64 n), (22, .int .i64 s.1)]) (fun s => s.2.l 61 3 ++ R) (fun s => (s.1 : Int) ≤ n ∧ s.2.ok 1 ((bts n (topI n - m) s.1).map intC)) (fun s => (n - s.1).toNat) (0, none) ⟨by dsimp only; omega, rfl⟩ (subs ⟨rfl, rfl, rfl, rfl, rfl, rfl, rfl, trivial⟩) (SubL.refl _) ?_
      rintro ⟨k, l⟩ ⟨k1, hl⟩
      dsimp only at k1 hl
      conv => enter [7]; dsimp only
      conv => enter [8]; dsimp only
      have hbl := bts_le n (topI n - m) k
      have hml : ((bts n (topI n - m) k).map intC).length = (bts n (topI n - m) k).length := List.length_map _
      refine cw_sr ?_
      refine steps_q rfl (q_bin rfl rfl rfl) ?_  -- simplex.go:56
      refine steps_nil ?_
      refine cw_seq ?_
      refine cw_cond _ rfl (fun hc3 => ?_) (fun hc3 => ?_)
      · -- yes 3
        have hk : (k : Int) < n := of_decide_eq_true hc3
        refine cw_skip ?_
        refine at_then ?_
        refine cw_seq ?_
        refine cw_block ?_
        refine cw_sr ?_
        refine steps_q rfl (q_move rfl) ?_  -- simplex.go:56
        refine steps_q rfl (q_assign rfl) ?_  -- simplex.go:56
        refine steps_nil ?_
        refine cw_sr ?_
        refine steps_q rfl (q_move rfl) ?_  -- simplex.go:57
        refine steps_q rfl (q_move rfl) ?_  -- simplex.go:57
        refine steps_q rfl (q_bin rfl rfl (sub64 (by omega) (by omega))) ?_  -- simplex.go:57
        refine steps_q rfl (q_move rfl) ?_  -- simplex.go:57
        refine steps_q rfl (q_bin rfl rfl (sub64 (by omega) (by omega))) ?_  -- simplex.go:57
        refine steps_q rfl (q_bin rfl rfl (shr64 (by omega))) ?_  -- simplex.go:57
        refine steps_q rfl (q_bin rfl rfl rfl) ?_  -- simplex.go:57
        refine steps_q rfl (q_bin rfl rfl rfl) ?_  -- simplex.go:57
        refine steps_nil ?_
        refine cw_cond _ rfl (fun hc4 => ?_) (fun hc4 => ?_)
        · -- yes 4
          have hb : bitB n (topI n - m) k = true := hc4
          have eb : bts n (topI n - m) (k + 1) = bts n (topI n - m) k ++ [(k : Int)] := if_pos hb
          have el : (bts n (topI n - m) (k + 1)).length = (bts n (topI n - m) k).length + 1 := by rw [eb]; simp
          rcases l with _ | ⟨g1, cur1, cap1⟩
          · -- way 11.a
            refine cw_region ?_
            refine steps_q rfl (q_move rfl) ?_  -- simplex.go:58
            refine steps_q rfl (q_move rfl) ?_  -- simplex.go:58
            refine steps_s (s_buildSl 35 rfl rfl rfl (bslI k) fun b35 => ?_)  -- simplex.go:58
            refine steps_s (s_appendN 61 35 none (bts n (topI n - m) k).length ((bts n (topI n - m) k).map intC) (intC k) hml elt34 rfl rfl hl (subs trivial) rfl rfl rfl rfl (by omega) (by unfold maxLen; omega) fun g1 cur1 cap1 hk1 => ?_)  -- simplex.go:58
            refine steps_q rfl (q_assign rfl) ?_  -- simplex.go:58
            refine steps_nil ?_
            refine at_then ?_
            refine cw_region ?_
            refine steps_q rfl (q_bin rfl rfl (add64 (by omega) (by omega))) ?_  -- simplex.go:56
            refine steps_q rfl (q_move rfl) ?_  -- simplex.go:56
            refine steps_nil ?_
            first
              | exact at_round (k + 1, l) ⟨by dsimp only; omega, by dsimp only; rw [eb]; exact hl⟩ (by dsimp only; omega) (subs ⟨rfl, rfl, rfl, rfl, by dsimp only; rw [eb]; rfl, rfl, by dsimp only; rw [show ((k + 1 : Nat) : Int) = k + 1 by omega]; rfl, trivial⟩) (SubL.refl _)
              | exact at_round (k + 1, some (g1, cur1, cap1)) ⟨by dsimp only; omega, by dsimp only; rw [eb, List.map_append]; exact hk1⟩ (by dsimp only; omega) (subs ⟨rfl, rfl, rfl, rfl, by dsimp only; rw [el]; rfl, rfl, by dsimp only; rw [show ((k + 1 : Nat) : Int) = k + 1 by omega]; rfl, trivial⟩) (sub_app (subs ⟨rfl, trivial⟩) (by repeat (first | exact SubL.refl _ | refine SubL.cons ?_ (hR _ rfl (by decide)))))
          · -- way 11.b
            refine cw_region ?_
            refine steps_q rfl (q_move rfl) ?_  -- simplex.go:58
            refine steps_q rfl (q_move rfl) ?_  -- simplex.go:58
            refine steps_s (s_buildSl 35 rfl rfl rfl (bslI k) fun b35 => ?_)  -- simplex.go:58
            refine steps_s (s_appendN 61 35 (some (g1, cur1, cap1)) (bts n (topI n - m) k).length ((bts n (topI n - m) k).map intC) (intC k) hml elt34 rfl rfl hl (subs ⟨rfl, trivial⟩) rfl rfl rfl rfl (by omega) (by unfold maxLen; omega) fun g1 cur1 cap1 hk1 => ?_)  -- simplex.go:58
            refine steps_q rfl (q_assign rfl) ?_  -- simplex.go:58
            refine steps_nil ?_
            refine at_then ?_
            refine cw_region ?_
            refine steps_q rfl (q_bin rfl rfl (add64 (by omega) (by omega))) ?_  -- simplex.go:56
            refine steps_q rfl (q_move rfl) ?_  -- simplex.go:56
            refine steps_nil ?_
            first
              | exact at_round (k + 1, l) ⟨by dsimp only; omega, by dsimp only; rw [eb]; exact hl⟩ (by dsimp only; omega) (subs ⟨rfl, rfl, rfl, rfl, by dsimp only; rw [eb]; rfl, rfl, by dsimp only; rw [show ((k + 1 : Nat) : Int) = k + 1 by omega]; rfl, trivial⟩) (SubL.refl _)
              | exact at_round (k + 1, some (g1, cur1, cap1)) ⟨by dsimp only; omega, by dsimp only; rw [eb, List.map_append]; exact hk1⟩ (by dsimp only; omega) (subs ⟨rfl, rfl, rfl, rfl, by dsimp only; rw [el]; rfl, rfl, by dsimp only; rw [show ((k + 1 : Nat) : Int) = k + 1 by omega]; rfl, trivial⟩) (sub_app (subs ⟨rfl, trivial⟩) (by repeat (first | exact SubL.refl _ | refine SubL.cons ?_ (hR _ rfl (by decide)))))
        · -- no 4
          have hb : ¬ bitB n (topI n - m) k = true := by rw [show bitB n (topI n - m) k = false from hc4]; decide
          have eb : bts n (topI n - m) (k + 1) = bts n (topI n - m) k := if_neg hb
          refine cw_skip ?_
          refine at_then ?_
          refine cw_region ?_
          refine steps_q rfl (q_bin rfl rfl (add64 (by omega) (by omega))) ?_  -- simplex.go:56
          refine steps_q rfl (q_move rfl) ?_  -- simplex.go:56
          refine steps_nil ?_
          first
            | exact at_round (k + 1, l) ⟨by dsimp only; omega, by dsimp only; rw [eb]; exact hl⟩ (by dsimp only; omega) (subs ⟨rfl, rfl, rfl, rfl, by dsimp only; rw [eb]; rfl, rfl, by dsimp only; rw [show ((k + 1 : Nat) : Int) = k + 1 by omega]; rfl, trivial⟩) (SubL.refl _)
            | exact at_round (k + 1, some (g1, cur1, cap1)) ⟨by dsimp only; omega, by dsimp only; rw [eb, List.map_append]; exact hk1⟩ (by dsimp only; omega) (subs ⟨rfl, rfl, rfl, rfl, by dsimp only; rw [el]; rfl, rfl, by dsimp only; rw [show ((k + 1 : Nat) : Int) = k + 1 by omega]; rfl, trivial⟩) (sub_app (subs ⟨rfl, trivial⟩) (by repeat (first | exact SubL.refl _ | refine SubL.cons ?_ (hR _ rfl (by decide)))))
      · -- no 3
        have hk : ¬ (k : Int) < n := of_decide_eq_false hc3
        have hkn : k = n.toNat := by omega
        subst hkn
        have hbl0 := bts_len hn hs (by omega)
        rcases l with _ | ⟨g1, cur1, cap1⟩
        · have := SV.len0 hl; rw [hml] at this; omega
        have hq : SV.ok 1 (some (g1, cur1, cap1)) ((bts n (topI n - m) n.toNat).map intC) := hl
        rw [hRe]
        have hvm := valsOf_more (g1, cur1, cap1) (bts n (topI n - m) n.toNat) hrow.1
        have hrm := okRow_more hrow hq
        rw [← ec] at hvm hrm
        have elc : (cmbs n size (m + 1)).length = (cmbs n size m).length + 1 := by rw [ec]; simp
        refine cw_exit ?_
        refine at_then ?_
        rcases out with _ | ⟨g2, cur2, cap2⟩
        · -- way 13.a
          refine cw_region ?_
          refine steps_q rfl (q_move rfl) ?_  -- simplex.go:61
          refine steps_q rfl (q_move rfl) ?_  -- simplex.go:61
          refine steps_s (s_buildSl 40 rfl rfl rfl (bslS g1 (bts n (topI n - m) n.toNat).length cap1) fun b40 => ?_)  -- simplex.go:61
          refine steps_s (s_appendN 62 40 none (cmbs n size m).length (valsOf inn (cmbs n size m)) [.slice (some ⟨g1, 0, none⟩) (bts n (topI n - m) n.toNat).length cap1] hvl elt104 rfl rfl hout (subs trivial) rfl rfl rfl rfl (by omega) (by unfold maxLen; omega) fun g2 cur2 cap2 hk2 => ?_)  -- simplex.go:61
          refine steps_q rfl (q_assign rfl) ?_  -- simplex.go:61
          refine steps_nil ?_
          refine at_then ?_
          refine cw_region ?_
          refine steps_q rfl (q_move rfl) ?_  -- simplex.go:51
          refine steps_q rfl (q_bin rfl rfl (sub64 (by omega) (by omega))) ?_  -- simplex.go:51
          refine steps_q rfl (q_assign rfl) ?_  -- simplex.go:51
          refine steps_nil ?_
          first
            | exact at_round (m + 1, out, inn) ⟨by dsimp only; omega, by dsimp only; rw [ec]; exact hrow, by dsimp only; rw [ec]; exact hout⟩ (by dsimp only; omega) (subs ⟨rfl, rfl, by dsimp only; rw [ec]; rfl, by dsimp only; rw [show topI n - ((m + 1 : Nat) : Int) = topI n - m - 1 by omega]; rfl, trivial⟩) (SubL.refl _)
            | refine At.ren _ (at_round (m + 1, some (g2, cur2, cap2), inn ++ [(g1, cur1, cap1)]) ⟨by dsimp only; omega, by dsimp only; exact hrm, by dsimp only; rw [hvm]; exact hk2⟩ (by dsimp only; omega) (subs ⟨rfl, rfl, by dsimp only; rw [elc]; rfl, by dsimp only; rw [show topI n - ((m + 1 : Nat) : Int) = topI n - m - 1 by omega]; rfl, trivial⟩) (SubL.refl _)) (row_more (A := [(62, (g2, .cells cur2.toArray 34 (0, 0)))]) (g1, cur1, cap1) 61 rfl (subs ⟨rfl, trivial⟩) (by repeat (first | exact SubL.refl _ | refine rowl_cons rfl ?_)) rfl rfl rfl)
        · -- way 13.b
          refine cw_region ?_
          refine steps_q rfl (q_move rfl) ?_  -- simplex.go:61
          refine steps_q rfl (q_move rfl) ?_  -- simplex.go:61
          refine steps_s (s_buildSl 40 rfl rfl rfl (bslS g1 (bts n (topI n - m) n.toNat).length cap1) fun b40 => ?_)  -- simplex.go:61
          refine steps_s (s_appendN 62 40 (some (g2, cur2, cap2)) (cmbs n size m).length (valsOf inn (cmbs n size m)) [.slice (some ⟨g1, 0, none⟩) (bts n (topI n - m) n.toNat).length cap1] hvl elt104 rfl rfl hout (subs ⟨rfl, trivial⟩) rfl rfl rfl rfl (by omega) (by unfold maxLen; omega) fun g2 cur2 cap2 hk2 => ?_)  -- simplex.go:61
          refine steps_q rfl (q_assign rfl) ?_  -- simplex.go:61
          refine steps_nil ?_
          refine at_then ?_
          refine cw_region ?_
          refine steps_q rfl (q_move rfl) ?_  -- simplex.go:51
          refine steps_q rfl (q_bin rfl rfl (sub64 (by omega) (by omega))) ?_  -- simplex.go:51
          refine steps_q rfl (q_assign rfl) ?_  -- simplex.go:51
          refine steps_nil ?_
          first
            | exact at_round (m + 1, out, inn) ⟨by dsimp only; omega, by dsimp only; rw [ec]; exact hrow, by dsimp only; rw [ec]; exact hout⟩ (by dsimp only; omega) (subs ⟨rfl, rfl, by dsimp only; rw [ec]; rfl, by dsimp only; rw [show topI n - ((m + 1 : Nat) : Int) = topI n - m - 1 by omega]; rfl, trivial⟩) (SubL.refl _)
            | refine At.ren _ (at_round (m + 1, some (g2, cur2, cap2), inn ++ [(g1, cur1, cap1)]) ⟨by dsimp only; omega, by dsimp only; exact hrm, by dsimp only; rw [hvm]; exact hk2⟩ (by dsimp only; omega) (subs ⟨rfl, rfl, by dsimp only; rw [elc]; rfl, by dsimp only; rw [show topI n - ((m + 1 : Nat) : Int) = topI n - m - 1 by omega]; rfl, trivial⟩) (SubL.refl _)) (row_more (A := [(62, (g2, .cells cur2.toArray 34 (0, 0)))]) (g1, cur1, cap1) 61 rfl (subs ⟨rfl, trivial⟩) (by repeat (first | exact SubL.refl _ | refine rowl_cons rfl ?_)) rfl rfl rfl)
  · -- no 1
    have hs : ¬ 0 < topI n - m := of_decide_eq_false hc1
    have hm : m = (topI n).toNat := by omega
    subst hm
    have hne := sized_ne hn s0 s1
    rcases out with _ | ⟨g2, cur2, cap2⟩
    · exfalso
      have := SV.len0 hout
      rw [hvl] at this
      exact hne (List.length_eq_zero_iff.1 this)
    refine cw_exit ?_
    refine at_then ?_
    refine cw_sr ?_
    refine steps_q rfl (q_move rfl) ?_  -- simplex.go:63
    refine steps_q rfl (q_assign rfl) ?_  -- simplex.go:63
    refine steps_nil ?_
    refine cw_ret ?_
    exact at_ret rfl (rv_tmp rfl rv_nil) fun w' hw => ⟨_, _, rfl, ⟨g2, cur2, cap2, inn, rfl, rfl, hrow, hout⟩, hw.ren _ (row_top (by rw [hrow.1]; omega))⟩
end Go.Proofs.YtomdahjakkifbaaGreat

/-
  The walks of package simplex: choices.
-/
namespace Go.Proofs.YtomdahjakkifbaaGreat
open Go Go.NP Go.RowKit Go.Proofs
set_option maxRecDepth 100000

def upto (n : Int) : Nat → List (List Int)
  | 0 => []
  | k + 1 => upto n k ++ sizedI n (k + 1)
/-- The choices of some of n places. -/
def choicesI (n : Int) : List (List Int) := upto n n.toNat
theorem upto_more {n : Int} {k : Nat} : ∀ {m : Nat}, k ≤ m → ∀ {j : Nat} {c : List Int}, (upto n k)[j]? = some c → (upto n m)[j]? = some c
  | 0, h, j, c, hc => by
    obtain rfl : k = 0 := by omega
    exact hc
  | m + 1, h, j, c, hc => by
    by_cases hk : k = m + 1
    · subst hk; exact hc
    · have := upto_more (m := m) (by omega) hc
      rw [upto, List.getElem?_append_left (List.getElem?_eq_some_iff.1 this).1]
      exact this
theorem part1 {l : List Value} {off : Nat} {v : Value} (h : Part l off 1 [v]) : l[off]? = some v := by
  obtain ⟨h1, _⟩ := h
  have := congrArg (·[0]?) h1
  simpa using this
/-- What choices hands out in a round. -/
def XC (n : Int) (i : Nat) (x : List Value) (Lo : HL) : Prop := ∃ c g cur cap j, (choicesI n)[i]? = some c ∧ x = [.slice (some ⟨g, 0, none⟩) c.length cap] ∧ NP.look Lo j = some (g, .cells cur.toArray 3 (0, 0)) ∧ SV.ok 1 (some (g, cur, cap)) (c.map intC)
def NeedC (b : Nat) (n : Int) (L : HL) : Prop := NP.look L 54 = some (b, .cells [.int .i64 n].toArray 3 (0, 0))
theorem simplex_choices (n : Int) (w : World) : Calls Tryz.prog 41 [.int .i64 n].toArray w fun e w' => ∃ v Ln, e = .returned v ∧
    (∃ b, v = .func (.func 64) #[] #[.pointer (some ⟨b, 0, none⟩)] ∧ Ln = [(54, (b, .cells [.int .i64 n].toArray 3 (0, 0)))]) ∧ St w [] w' Ln := by
  refine calls_of Tryz.func41 rfl Tryz.ntmps41 rfl (St.start w) ?_
  refine cw_sr ?_
  refine steps_s (s_box1 54 rfl rfl rfl fun b1 => ?_)  -- simplex.go:36
  refine steps_q rfl (q_assign rfl) ?_  -- simplex.go:36
  refine steps_nil ?_
  refine cw_sr ?_
  refine steps_q rfl (q_func rfl rfl) ?_  -- simplex.go:37
  refine steps_q rfl (q_assign rfl) ?_  -- simplex.go:37
  refine steps_nil ?_
  refine cw_ret ?_
  exact at_ret rfl (rv_tmp rfl rv_nil) fun w' hw => ⟨_, _, rfl, ⟨b1, rfl, rfl⟩, hw⟩
theorem iterx_stop {P : Program} {w0 : World} {M : List Nat} {N n i : Nat} {T : TL} {Lo Lt : HL} {fn : Func} {x : List Value} {X : Nat → List Value → HL → Prop} {J : Nat → HL → Prop} {Jx : Nat → List Value → HL → Prop} (hr : fn.results.toList = []) (hX : X i x Lo) (ho : bigL Lo = true) (hk : okL Lt = true) (h : Jx i x Lt) :
    At w0 M N D0 (bodyPost P fn fun e W' => (∃ v, e = .returned v) ∧ ∃ Lt', okL Lt' = true ∧ ((J n Lt' ∧ St w0 M W' Lt') ∨ ∃ i x Lo, X i x Lo ∧ bigL Lo = true ∧ Jx i x Lt' ∧ St w0 M W' (Lo ++ Lt'))) .ret T (Lo ++ Lt) :=
  at_ret hr rv_nil fun _ hw => ⟨⟨_, rfl⟩, Lt, hk, .inr ⟨i, x, Lo, hX, ho, h, hw⟩⟩
theorem iterx_done {P : Program} {w0 : World} {M : List Nat} {N n : Nat} {T : TL} {Lt : HL} {fn : Func} {X : Nat → List Value → HL → Prop} {J : Nat → HL → Prop} {Jx : Nat → List Value → HL → Prop} (hr : fn.results.toList = []) (hk : okL Lt = true) (h : J n Lt) :
    At w0 M N D0 (bodyPost P fn fun e W' => (∃ v, e = .returned v) ∧ ∃ Lt', okL Lt' = true ∧ ((J n Lt' ∧ St w0 M W' Lt') ∨ ∃ i x Lo, X i x Lo ∧ bigL Lo = true ∧ Jx i x Lt' ∧ St w0 M W' (Lo ++ Lt'))) .normal T Lt :=
  at_end hr rv_nil fun _ hw => ⟨⟨_, rfl⟩, Lt, hk, .inl ⟨h, hw⟩⟩
theorem simplex_choices1 (b : Nat) {n : Int} (hn : N4 n) : IterX Tryz.prog 64 [.pointer (some ⟨b, 0, none⟩)] (choicesI n).length (XC n) (NeedC b n) := by
  intro w0 M l J Jx hNd hR Lt W h0 hk hW
  have nb : 1 ≤ n ∧ n ≤ 4 := by unfold N4 at hn; omega
  refine calls_at Tryz.func64 rfl Tryz.ntmps64 rfl hW ?_
  refine cw_sr ?_
  refine steps_q rfl (q_assign rfl) ?_  -- simplex.go:38
  refine steps_nil ?_
  refine cw_block ?_
  -- LOOP 1 writes [3, 5, 6, 7, 8, 9, 10, 11, 12, 13, 14, 15, 16, 17, 18, 19, 20, 21, 22, 23]  stores via []  reads [0, 1]
  refine cw_loop (S := Nat × HL) (fun s => [(0, .func (.yield l) #[] #[]), (1, .pointer (some ⟨b, 0, none⟩)), (3, .int .i64 (s.1 + 1))]) (fun s => s.2) (fun s => s.1 ≤ n.toNat ∧ J (upto n s.1).length s.2 ∧ okL s.2 = true) (fun s => n.toNat + 1 - s.1) (0, Lt) ⟨by dsimp only; omega, h0, hk⟩ (subs ⟨rfl, rfl, rfl, trivial⟩) (SubL.refl _) ?_
  rintro ⟨k, L1⟩ ⟨k1, hJ1, hk1⟩
  dsimp only at k1 hJ1 hk1
  conv => enter [7]; dsimp only
  conv => enter [8]; dsimp only
  refine cw_seq ?_
  refine cw_sr ?_
  refine steps_q rfl (q_move rfl) ?_  -- simplex.go:38
  refine steps_q rfl (q_load1 54 one3 rfl (hNd _ _ hJ1) rfl) ?_  -- simplex.go:38
  refine steps_q rfl (q_bin rfl rfl rfl) ?_  -- simplex.go:38
  refine steps_nil ?_
  refine cw_cond _ rfl (fun hc1 => ?_) (fun hc1 => ?_)
  · -- yes 1
    have hkn : (k : Int) + 1 ≤ n := of_decide_eq_true hc1
    refine cw_skip ?_
    refine at_then ?_
    refine cw_seq ?_
    refine cw_block ?_
    refine cw_sr ?_
    refine steps_q rfl (q_load1 54 one3 rfl (hNd _ _ hJ1) rfl) ?_  -- simplex.go:39
    refine steps_q rfl (q_move rfl) ?_  -- simplex.go:39
    refine steps_s (s_callSt ent65 rfl rfl rfl (R := ZR (sizedI n (k + 1))) (fun w' hw => by simpa using simplex_sized w' hn (by omega) hkn) fun v Ln hZ => ?_)  -- simplex.go:39
    obtain ⟨g, cur, cap, inn, rfl, rfl, hrow, hsv⟩ := hZ
    obtain ⟨Lo, hLo⟩ : ∃ Lo : HL, Lo = (5000, (g, .cells cur.toArray 34 (0, 0))) :: rowL 3 1000 inn := ⟨_, rfl⟩
    have hbig : bigL Lo = true := by rw [hLo]; simp [bigL, bigL_rowL]
    have hg5 : ∀ Lt : HL, NP.look (Lo ++ Lt) 5000 = some (g, .cells cur.toArray 34 (0, 0)) := fun Lt => by rw [hLo]; rfl
    rw [← hLo]
    have hup : upto n (k + 1) = upto n k ++ sizedI n (k + 1) := by rw [upto]
    have hvl := valsOf_len hrow.1
    have hsl : (sizedI n (k + 1)).length ≤ 15 := by have := cmbs_le n (k + 1) (topI n).toNat; have := top_sh hn; unfold sizedI; omega
    refine steps_q rfl (q_lenSl Tryz.underlying104 rfl) ?_  -- simplex.go:39
    refine steps_q rfl (q_move rfl) ?_  -- simplex.go:39
    refine steps_nil ?_
    refine cw_block ?_
    -- LOOP 2 writes [5, 15, 16, 17, 18, 19, 20, 21, 22, 23]  stores via []  reads [0, 13, 14]
    refine cw_loop (S := Nat × HL) (fun s => [(0, .func (.yield l) #[] #[]), (1, .pointer (some ⟨b, 0, none⟩)), (3, .int .i64 (k + 1)), (13, .slice (some ⟨g, 0, none⟩) (sizedI n (k + 1)).length cap), (14, .int .i64 (sizedI n (k + 1)).length), (15, .int .i64 s.1)]) (fun s => Lo ++ s.2) (fun s => s.1 ≤ (sizedI n (k + 1)).length ∧ J ((upto n k).length + s.1) s.2 ∧ okL s.2 = true) (fun s => (sizedI n (k + 1)).length - s.1) (0, L1) ⟨by dsimp only; omega, hJ1, hk1⟩ (subs ⟨rfl, rfl, rfl, rfl, rfl, rfl, trivial⟩) (SubL.refl _) ?_
    rintro ⟨j, L2⟩ ⟨j1, hJ2, hk2⟩
    dsimp only at j1 hJ2 hk2
    conv => enter [7]; dsimp only
    conv => enter [8]; dsimp only
    refine cw_sr ?_
    refine steps_q rfl (q_bin rfl rfl rfl) ?_  -- simplex.go:39
    refine steps_nil ?_
    refine cw_seq ?_
    refine cw_cond _ rfl (fun hc2 => ?_) (fun hc2 => ?_)
    · -- yes 2
      have hj : (j : Int) < ((sizedI n (k + 1)).length : Int) := of_decide_eq_true hc2
      obtain ⟨c, hc⟩ : ∃ c, (sizedI n (k + 1))[j]? = some c := ⟨(sizedI n (k + 1))[j]'(by omega), List.getElem?_eq_getElem (by omega)⟩
      obtain ⟨q, hq⟩ : ∃ q, inn[j]? = some q := ⟨inn[j]'(by rw [hrow.1]; omega), List.getElem?_eq_getElem (by rw [hrow.1]; omega)⟩
      have hvq := valsOf_get hq hc
      have hcc : (choicesI n)[(upto n k).length + j]? = some c := upto_more (k := k + 1) (by omega) (by rw [hup, List.getElem?_append_right (by omega), Nat.add_sub_cancel_left]; exact hc)
      have hlt := (List.getElem?_eq_some_iff.1 hcc).1
      have hX : XC n ((upto n k).length + j) [.slice (some ⟨q.1, 0, none⟩) c.length q.2.2] Lo := ⟨c, q.1, q.2.1, q.2.2, 1000 + j, hcc, rfl, by rw [hLo, look_cons, if_neg (by have := (List.getElem?_eq_some_iff.1 hq).1; have := hrow.1; have := cmbs_le n (k + 1) (topI n).toNat; have := top_sh hn; unfold sizedI at *; omega)]; exact rowL_look hq, hrow.2 j q c hq hc⟩
      refine cw_skip ?_
      refine at_then ?_
      refine cw_seq ?_
      refine cw_block ?_
      refine cw_sr ?_
      refine steps_q rfl (q_indexSl slc104 rfl rfl (by omega) (by omega)) ?_  -- simplex.go:39
      refine steps_q rfl (q_load1 5000 one34 rfl (hg5 L2) (part1 (by have := SV.part hsv hvq; simpa using this))) ?_  -- simplex.go:39
      refine steps_q rfl (q_assign rfl) ?_  -- simplex.go:39
      refine steps_nil ?_
      refine cw_sr ?_
      refine steps_q rfl (q_move rfl) ?_  -- simplex.go:40
      refine steps_q rfl (q_move rfl) ?_  -- simplex.go:40
      refine steps_s (s_yieldX Lo L2 rfl rfl rfl hbig hk2 (fun W' hW' => hR _ _ Lo hlt hX hbig L2 hJ2 hk2 W' hW') fun b' Lt' hk' hb' => ?_)  -- simplex.go:40
      refine steps_q rfl (q_not rfl rfl) ?_  -- simplex.go:40
      refine steps_nil ?_
      refine cw_cond _ rfl (fun hc3 => ?_) (fun hc3 => ?_)
      · -- yes 3
        obtain rfl : b' = false := by simpa using hc3
        have hb' : Jx _ _ Lt' := hb'
        refine cw_ret ?_
        exact iterx_stop rfl hX hbig hk' hb'
      · -- no 3
        obtain rfl : b' = true := by simpa using hc3
        have hb' : J _ Lt' := hb'
        refine cw_skip ?_
        refine at_then ?_
        refine cw_region ?_
        refine steps_q rfl (q_bin rfl rfl (add64 (by omega) (by omega))) ?_  -- simplex.go:39
        refine steps_q rfl (q_move rfl) ?_  -- simplex.go:39
        refine steps_nil ?_
        exact at_round (j + 1, Lt') ⟨by dsimp only; omega, hb', hk'⟩ (by dsimp only; omega) (subs ⟨rfl, rfl, rfl, rfl, rfl, by dsimp only; rw [show ((j + 1 : Nat) : Int) = j + 1 by omega]; rfl, trivial⟩) (SubL.refl _)
    · -- no 2
      have hj : ¬ (j : Int) < ((sizedI n (k + 1)).length : Int) := of_decide_eq_false hc2
      have hjl : j = (sizedI n (k + 1)).length := by omega
      refine cw_exit ?_
      refine at_then ?_
      refine cw_region ?_
      refine steps_q rfl (q_move rfl) ?_  -- simplex.go:38
      refine steps_q rfl (q_bin rfl rfl (add64 (by omega) (by omega))) ?_  -- simplex.go:38
      refine steps_q rfl (q_assign rfl) ?_  -- simplex.go:38
      refine steps_nil ?_
      exact at_round (k + 1, L2) ⟨by dsimp only; omega, by dsimp only; rw [hup, List.length_append, ← hjl]; exact hJ2, hk2⟩ (by dsimp only; omega) (subs ⟨rfl, rfl, by dsimp only; rw [show ((k + 1 : Nat) : Int) + 1 = k + 1 + 1 by omega]; rfl, trivial⟩) (sub_right hbig hk2)
  · -- no 1
    have hkn : ¬ (k : Int) + 1 ≤ n := of_decide_eq_false hc1
    have hk' : k = n.toNat := by omega
    subst hk'
    refine cw_exit ?_
    exact iterx_done rfl hk1 hJ1
end Go.Proofs.YtomdahjakkifbaaGreat
